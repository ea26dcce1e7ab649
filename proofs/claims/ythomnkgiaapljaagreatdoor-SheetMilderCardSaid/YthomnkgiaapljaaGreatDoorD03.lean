/- Texts R14 SS Spec8 R15 Spec9 Held R16 Spec10 Spec11 Spec12 Held2 R17 Spec13 R18 R19 R20 Base3 R21 Spec14 Base4 R22 Spec15 R23 R24 R25 R26 Rf P1 of the proof, merged: contracts of functions of chapter 10, of the program and of the reference, and plain laws. -/
import Derived.Deep.RegionHeld3
import Derived.Laws.RangeAny
import Derived.OrdersHeld
import Derived.RangeFuncLeaves
import Derived.RangeFuncNested
import Derived.Test.YthomnkgiaapljaaGreatDoorD01
import Derived.Test.YthomnkgiaapljaaGreatDoorD02
section
set_option maxRecDepth 100000
set_option linter.unusedSimpArgs false
set_option linter.unusedVariables false
namespace Go.Bp
open Go.RowKit Go.Proofs
/-- A slice and a bool. -/
def RetWO (w : World) (xs : List Int) (b : Bool) (e : Ending) (w' : World) : Prop := ∃ v, e = .returned (.tuple #[v, .bool b]) ∧ OwnI w.heap.size w' v xs ∧ Ext w w'
set_option maxHeartbeats 1000000 in
theorem Without_any (cv tv lv : Value) (c : Code) (t l : List Int) (w : World) (h : CodeV w cv c) (ht : Ints w tv t) (hl : Ints w lv l) (hsz : t.length ≤ 1000000) :
    Calls Tryz.prog 50 #[cv, tv, lv] w (RetWO w (without c t l).1 (without c t l).2) := by
  obtain ⟨fv, mv, rfl, ⟨A2, cp2, rfl, h12, h22, h32, h42⟩, hM, hW⟩ := h
  obtain ⟨A, cp, rfl, h1, h2, h3, h4⟩ := ht
  unfold maxLen at h2 h22
  clear h3 h32 h42
  have hE := Ext.refl w
  go_enter Tryz.func50, Tryz.ntmps50
  go_wp2_with (first | ((with_reducible refine q_box (d := some 3) ?_); intro W3 g3 hE3 hB3 hg3; simp [Act.eval, Act.put, Value.cells] at hB3; (try replace hE := hE.trans hE3); (try replace hl := hl.ext hE3); (try replace hB3 := hB3.ext hE3); (try replace hb3_0 := Ext.cell_some hE3 hb3_0); (try replace hb3_1 := Ext.cell_some hE3 hb3_1); (try replace hb3_2 := Ext.cell_some hE3 hb3_2); have hb3_0 := hB3.cell 0; have hb3_1 := hB3.cell 1; have hb3_2 := hB3.cell 2; simp at hb3_0 hb3_1 hb3_2; clear hE3))
  have hB0 := hE.size
  have k0 := hb3_0
  have kl := hl
  go_loopw [8, 9, 10] (fun v b i wr => Ext W3 wr ∧ ∃ k : Nat, k ≤ t.length ∧ i = .int .i64 k ∧ b = .bool (faultsTo c t l k) ∧ OwnI W3.heap.size wr v (leftTo c t l k)) (fun _ _ i _ => t.length - (intOf i).toNat)
  case atStart => exact ⟨Ext.refl _, 0, by omega, rfl, rfl, OwnI.nil _ _⟩
  case round =>
    obtain ⟨hEr, k, hk, rfl, rfl, hO⟩ := hrel
    replace k0 := Ext.cell_some hEr k0
    replace kl := kl.ext hEr
    clear hb3_0 hb3_1 hb3_2 hB3 hl
    have hlen := leftTo_len c t l k
    have Hlen := Lib.hid hlen
    clear hlen
    by_cases hlt : k < t.length
    · obtain ⟨ad, rfl, hc⟩ := h4 (by omega)
      have e1 := ((hc.ext hE).ext hEr).i hlt
      have hs := leftTo_succ c t l hlt
      have hf := faultsTo_succ c t l hlt
      clear h4 hc
      by_cases hb : hasB l ((k : Int) + 1) = true
      · rw [if_pos hb] at hs
        rw [hb, Bool.not_true, Bool.false_or] at hf
        have Hs := Lib.hid hs
        have Hf := Lib.hid hf
        clear hs hf
        by_cases hfa : faultsTo c t l k = true
        · have Hfa := Lib.hid hfa
          go_wp2_with (go_at_call 49; refine (Has_any _ _ _ _ kl).mono ?_; rintro e w' ⟨rfl, rfl⟩)
          refine wp_region_quiet_lit (by kernel_rfl) (by kernel_rfl) ?_
          repeat (any_goals (first | go_big_quiet_step (fail) | quiet_step (fail)))
          refine wpQuiet_nil ?_
          intro _ hw'
          obtain ⟨nq, hw''⟩ := hw'
          subst hw''
          go_wp2
          go_roundw
          case rel => exact ⟨hEr.drewN _, k + 1, by omega, by go_num, by rw [Hf.out, Hfa.out]; rfl, by rw [Hs.out]; exact hO.ext ((Ext.refl _).drewN _)⟩
          case measure => simp [intOf]; omega
        · simp only [Bool.not_eq_true] at hfa
          have Hfa := Lib.hid hfa
          go_wp2_with (go_at_call 49; refine (Has_any _ _ _ _ kl).mono ?_; rintro e w' ⟨rfl, rfl⟩)
          refine wp_region_quiet_lit (by kernel_rfl) (by kernel_rfl) ?_
          repeat (any_goals (first | go_big_quiet_step (fail) | quiet_step (fail)))
          refine wpQuiet_nil ?_
          intro _ hw'
          obtain ⟨nq, hw''⟩ := hw'
          subst hw''
          go_wp2
          go_roundw
          case rel => exact ⟨hEr.drewN _, k + 1, by omega, by go_num, by rw [Hf.out, Hfa.out]; rfl, by rw [Hs.out]; exact hO.ext ((Ext.refl _).drewN _)⟩
          case measure => simp [intOf]; omega
      · rw [if_neg hb] at hs
        simp only [Bool.not_eq_true] at hb
        rw [hb, Bool.not_false, Bool.true_or, Bool.and_true] at hf
        have Hs := Lib.hid hs
        have Hf := Lib.hid hf
        clear hs hf
        go_wp2_with (first | (go_at_call 49; refine (Has_any _ _ _ _ kl).mono ?_; rintro e w' ⟨rfl, rfl⟩) | ((with_reducible refine q_bsI (d := some 37) (n := t[k]) ?_ ?_); rfl; intro W12 g12 hE12 hB12 hg12; replace hEr := hEr.trans hE12; replace hO := hO.ext hE12) | (refine q_appI (d := some 38) rfl hO rfl hB12 (by have := Hlen.out; omega) (by have := hEr.size; omega) ?_; intro v' W13 hO' hmono hgr; replace hEr := hmono _ hEr))
        go_roundw
        case rel => exact ⟨hEr, k + 1, by omega, by go_num, by rw [Hf.out], by rw [Hs.out]; exact hO'⟩
        case measure => simp [intOf]; omega
    · obtain rfl : k = t.length := by omega
      clear h4
      go_wp2
      go_ret2
      exact ⟨_, rfl, hO.base hB0, hE.trans hEr⟩
end Go.Bp
end
section
/- Slices of slices of ints. -/
set_option maxRecDepth 100000
namespace Go.Bp
open Go.RowKit Go.Proofs
/-- Ints whose memory is a row of ints. -/
def IntB (w : World) (v : Value) (xs : List Int) : Prop := Ints w v xs ∧ ∀ ad n c, v = .slice (some ad) n c → 0 < n → ∃ cur fr, w.heap[ad.block]? = some (.cells cur 3 fr)
theorem IntB.ints {w : World} {v : Value} {xs : List Int} (h : IntB w v xs) : Ints w v xs := h.1
theorem IntB.ext {w w' : World} {v : Value} {xs : List Int} (h : IntB w v xs) (e : Ext w w') : IntB w' v xs :=
  ⟨h.1.ext e, fun ad n c hv hn => let ⟨cur, fr, hc⟩ := h.2 ad n c hv hn; ⟨cur, fr, e.heap_some hc⟩⟩
theorem IntB.d {w : World} {v : Value} {xs : List Int} (h : IntB w v xs) : IntB w.drew v xs := h
theorem IntB.of_own {B : Nat} {w : World} {v : Value} {xs : List Int} (h : OwnI B w v xs) : IntB w v xs := by
  refine ⟨h.ints, fun ad n c hv hn => ?_⟩
  rcases h.2 with ⟨h2, h3⟩ | ⟨g, cap, cur, h2, _, h4, _⟩
  · rw [h2] at hv; injection hv with e1; cases e1
  · rw [h2] at hv; injection hv with e1; injection e1 with e1; subst e1; exact ⟨cur, _, h4⟩
/-- A write into a row of another type leaves ints as they are. -/
theorem IntB.grown {w W : World} {v : Value} {xs : List Int} {row : Option Nat} (h : IntB w v xs) (hg : w.grownBy W row) (hr : ∀ g, row = some g → ∃ cur t fr, w.heap[g]? = some (.cells cur t fr) ∧ t ≠ 3) : IntB W v xs := by
  obtain ⟨⟨A, c, hv, h1, h2, h3, h4⟩, h5⟩ := h
  have hb : ∀ ad, A = some ad → 0 < xs.length → W.heap[ad.block]? = w.heap[ad.block]? := by
    intro ad hA hn
    obtain ⟨cur, fr, hc⟩ := h5 ad _ c (by rw [hv, hA]) hn
    refine hg.block _ (Array.getElem?_eq_some_iff.1 hc).1 fun e => ?_
    obtain ⟨cur', t, fr', hc', ht⟩ := hr _ e.symm
    rw [hc] at hc'; injection hc' with hc'; injection hc' with _ e2; exact ht e2.symm
  refine ⟨⟨A, c, hv, h1, h2, h3, fun hn => ?_⟩, fun ad n c' hv' hn => ?_⟩
  · obtain ⟨ad, hA, hc⟩ := h4 hn
    refine ⟨ad, hA, fun j u hu => ?_⟩
    rw [World.cell?_of_block (w := w) (by rw [block_of_add]; exact hb ad hA hn)]
    exact hc j u hu
  · obtain ⟨cur, fr, hc⟩ := h5 ad n c' hv' hn
    rw [hv] at hv'; injection hv' with e1 e2 e3
    subst e2
    exact ⟨cur, fr, by rw [hb ad e1 hn]; exact hc⟩
/-- The values vals are slices that read as xss. -/
def Vals (w : World) (vals : List Value) (xss : List (List Int)) : Prop := vals.length = xss.length ∧ ∀ (i : Nat) (v : Value) (xs : List Int), vals[i]? = some v → xss[i]? = some xs → IntB w v xs
theorem Vals.ext {w w' : World} {vals : List Value} {xss : List (List Int)} (h : Vals w vals xss) (e : Ext w w') : Vals w' vals xss := ⟨h.1, fun i v xs h1 h2 => (h.2 i v xs h1 h2).ext e⟩
theorem Vals.snoc {w : World} {vals : List Value} {xss : List (List Int)} {v : Value} {xs : List Int} (h : Vals w vals xss) (hv : IntB w v xs) : Vals w (vals ++ [v]) (xss ++ [xs]) := by
  refine ⟨by simp [h.1], fun i u ys h1 h2 => ?_⟩
  rcases Nat.lt_or_ge i vals.length with hi | hi
  · rw [List.getElem?_append_left hi] at h1
    rw [List.getElem?_append_left (by rw [← h.1]; exact hi)] at h2
    exact h.2 i u ys h1 h2
  · rw [List.getElem?_append_right hi] at h1
    rw [List.getElem?_append_right (by rw [← h.1]; exact hi), ← h.1] at h2
    cases hj : i - vals.length with
    | zero => rw [hj] at h1 h2; simp at h1 h2; subst h1 h2; exact hv
    | succ j => rw [hj] at h1; simp at h1
def IntSS (w : World) (v : Value) (xss : List (List Int)) : Prop := ∃ vals, Sl w 1 v xss.length vals ∧ Vals w vals xss
theorem IntSS.ext {w w' : World} {v : Value} {xss : List (List Int)} (h : IntSS w v xss) (e : Ext w w') : IntSS w' v xss := let ⟨vals, h1, h2⟩ := h; ⟨vals, h1.ext e, h2.ext e⟩
theorem IntSS.d {w : World} {v : Value} {xss : List (List Int)} (h : IntSS w v xss) : IntSS w.drew v xss := h.ext (Ext.todrew (Ext.refl w))
def OwnSS (B : Nat) (w : World) (v : Value) (xss : List (List Int)) : Prop := ∃ vals, w.ownsRow B 26 1 v xss.length vals ∧ Vals w vals xss
theorem OwnSS.ext {B : Nat} {w w' : World} {v : Value} {xss : List (List Int)} (h : OwnSS B w v xss) (e : Ext w w') : OwnSS B w' v xss := let ⟨vals, h1, h2⟩ := h; ⟨vals, own_ext h1 e, h2.ext e⟩
theorem OwnSS.base {w : World} {B B' : Nat} {v : Value} {xss : List (List Int)} (h : OwnSS B w v xss) (hB : B' ≤ B) : OwnSS B' w v xss := let ⟨vals, h1, h2⟩ := h; ⟨vals, own_base h1 hB, h2⟩
theorem OwnSS.d {B : Nat} {w : World} {v : Value} {xss : List (List Int)} (h : OwnSS B w v xss) : OwnSS B w.drew v xss := h.ext (Ext.todrew (Ext.refl w))
theorem OwnSS.ss {B : Nat} {w : World} {v : Value} {xss : List (List Int)} (h : OwnSS B w v xss) : IntSS w v xss := let ⟨vals, h1, h2⟩ := h; ⟨vals, Sl.of_own h1, h2⟩
theorem OwnSS.nil (B : Nat) (w : World) : OwnSS B w (.slice none 0 0) [] := ⟨[], World.ownsRow_nil w B 26 1, rfl, by simp⟩
/-- An element of a slice of slices. -/
theorem IntSS.at_ {w : World} {A : Option Addr} {n c : Nat} {xss : List (List Int)} (h : IntSS w (.slice A n c) xss) {k : Nat} (hk : k < xss.length) : ∃ ad v, A = some ad ∧ w.cell? (ad.add k) = some v ∧ IntB w v xss[k] := by
  obtain ⟨vals, ⟨A', c', hv, h1, h2, h3, h4⟩, h5, h6⟩ := h
  injection hv with e1 e2 e3
  subst e1 e2
  obtain ⟨ad, hA, hc⟩ := h4 (by omega)
  have hkv : k < vals.length := by omega
  exact ⟨ad, vals[k], hA, hc k _ (List.getElem?_eq_getElem hkv), h6 k _ _ (List.getElem?_eq_getElem hkv) (List.getElem?_eq_getElem hk)⟩
theorem IntSS.len {w : World} {v : Value} {xss : List (List Int)} (h : IntSS w v xss) : ∃ A c, v = .slice A xss.length c ∧ xss.length ≤ c ∧ c ≤ maxLen := by
  obtain ⟨vals, ⟨A, c, hv, h1, h2, _⟩, _⟩ := h
  exact ⟨A, c, hv, h1, h2⟩
theorem Vals.grown {w W : World} {B n : Nat} {v : Value} {vals own : List Value} {xss : List (List Int)} (h : Vals w vals xss) (hown : w.ownsRow B 26 1 v n own) (hg : w.grownBy W v.ownBlock) : Vals W vals xss :=
  ⟨h.1, fun i u xs h1 h2 => (h.2 i u xs h1 h2).grown hg fun g hgr => by
    rcases hown.2 with ⟨rfl, _⟩ | ⟨g', cap, cur, rfl, _, h4, _⟩
    · simp [Value.ownBlock] at hgr
    · have : g' = g := by simpa [Value.ownBlock] using hgr
      subst this
      exact ⟨cur, 26, _, h4, by decide⟩⟩
theorem IntB.grownSS {w W : World} {B n : Nat} {v u : Value} {own : List Value} {xs : List Int} (h : IntB w u xs) (hown : w.ownsRow B 26 1 v n own) (hg : w.grownBy W v.ownBlock) : IntB W u xs :=
  h.grown hg fun g hgr => by
    rcases hown.2 with ⟨rfl, _⟩ | ⟨g', cap, cur, rfl, _, h4, _⟩
    · simp [Value.ownBlock] at hgr
    · have : g' = g := by simpa [Value.ownBlock] using hgr
      subst this
      exact ⟨cur, 26, _, h4, by decide⟩
/-- Two slices of the call's own that lie in different rows. -/
def Apart (w : World) (v u : Value) : Prop := (u.ownBlock = none ∨ u.ownBlock ≠ v.ownBlock) ∧ (∀ g, u.ownBlock = some g → g < w.heap.size) ∧ (∀ g, v.ownBlock = some g → g < w.heap.size)
theorem Apart.nil (w : World) : Apart w (.slice none 0 0) (.slice none 0 0) := by simp [Apart, Value.ownBlock]
theorem Apart.ext {w w' : World} {v u : Value} (h : Apart w v u) (e : Ext w w') : Apart w' v u := ⟨h.1, fun g hg => Nat.lt_of_lt_of_le (h.2.1 g hg) e.size, fun g hg => Nat.lt_of_lt_of_le (h.2.2 g hg) e.size⟩
theorem Apart.symm {w : World} {v u : Value} (h : Apart w v u) : Apart w u v := by
  refine ⟨?_, h.2.2, h.2.1⟩
  rcases h.1 with h1 | h1
  · cases hv : v.ownBlock with
    | none => exact .inl rfl
    | some g => right; rw [h1]; simp
  · exact .inr (fun e => h1 e.symm)
theorem Apart.app {w W : World} {v v' u : Value} (h : Apart w v u) (hg : w.grownBy W v.ownBlock) (h7 : v'.ownBlock = v.ownBlock ∨ v'.ownBlock = some w.heap.size) (hv' : ∀ g, v'.ownBlock = some g → g < W.heap.size) : Apart W v' u := by
  refine ⟨?_, fun g hgu => Nat.lt_of_lt_of_le (h.2.1 g hgu) hg.size, hv'⟩
  rcases h7 with h7 | h7
  · rw [h7]; exact h.1
  · cases hu : u.ownBlock with
    | none => exact .inl rfl
    | some g =>
      right
      rw [h7]
      intro e
      injection e with e
      have := h.2.1 g hu
      omega
theorem OwnSS.lt {B : Nat} {w : World} {v : Value} {xss : List (List Int)} (h : OwnSS B w v xss) : ∀ g, v.ownBlock = some g → g < w.heap.size := fun g hg => let ⟨_, h1, _⟩ := h; (h1.lt g hg).2
theorem OwnSS.kept {B B' : Nat} {w W : World} {v u : Value} {xss yss : List (List Int)} (h : OwnSS B w u yss) (hv : OwnSS B' w v xss) (ha : Apart w v u) (hg : w.grownBy W v.ownBlock) : OwnSS B W u yss := by
  obtain ⟨vals, h1, h2⟩ := h
  obtain ⟨vals', h3, _⟩ := hv
  exact ⟨vals, h1.kept hg ha.1, h2.grown h3 hg⟩
theorem IntSS.grown {w0 W : World} {v : Value} {xss : List (List Int)} (h : IntSS w0 v xss) (hb : Below w0.heap.size w0 W) : IntSS W v xss := h.ext hb
section
variable {ops : Array Oper} {Q : Exit → Act → World → Prop} {a : Act} {w : World} {rest : List Oper}
variable {d : Option Tmp} {ty : TypeId} {pos : String} {after : Array Edge}
theorem q_bsSS {x : Operand} {A : Option Addr} {n c : Nat} (hx : a.eval x = .slice A n c)
    (k : ∀ W g, Ext w W → Blk W g 26 #[.slice A n c] → w.heap.size ≤ g → wpList Tryz.prog ops Q rest (a.put d (.slice (some ⟨g, 0, none⟩) 1 1)) W) :
    wpList Tryz.prog ops Q (⟨d, .buildSlice 93 1 #[(0, x)], ty, pos, after, none⟩ :: rest) a w :=
  q_bs1 Tryz.underlying93 ti26 rfl (by rw [hx]; rfl) (by rw [hx]; exact k)
/-- 'out = append(out, xs)', out [][]int. -/
theorem q_appSSS {s x : Operand} {B g : Nat} {v u : Value} {xss : List (List Int)} {xs : List Int} (hs : a.eval s = v) (hO : OwnSS B w v xss) (hx : a.eval x = .slice (some ⟨g, 0, none⟩) 1 1) (hb : Blk w g 26 #[u]) (hu : IntB w u xs) (hlen : xss.length ≤ 1000000000) (hB : B ≤ w.heap.size)
    (k : ∀ v' W, OwnSS B W v' (xss ++ [xs]) → (∀ w0, Below B w0 w → Below B w0 W) → w.grownBy W v.ownBlock → (v'.ownBlock = v.ownBlock ∨ v'.ownBlock = some w.heap.size) → wpList Tryz.prog ops Q rest (a.put d v') W) :
    wpList Tryz.prog ops Q (⟨d, .call { callee := .builtin .append, args := #[s, x], argTypes := #[93, 93] }, ty, pos, after, none⟩ :: rest) a w := by
  obtain ⟨vals, h1, h2⟩ := hO
  obtain ⟨A', c', hu1, _⟩ := hu.1
  refine q_append Tryz.underlying93 ti26 rfl (by decide) hs h1 hx (fun _ => ⟨_, rfl, hb.cells⟩) (by simp) (by rw [hu1]; simp [Value.oneCell']) (by omega) (by unfold maxLen; omega) hB ?_
  intro v' W h3 h4 h7
  refine k v' W ⟨vals ++ [u], by simpa using h3, ?_⟩ (fun w0 h0 => grown_ext h0 h1 h4 hB) h4 h7
  exact (h2.grown h1 h4).snoc (hu.grownSS h1 h4)
end
end Go.Bp
end
section
/- Plain Lean: enough lines. -/
namespace Go.Bp
open Go.RowKit
/-- Those of the first k tests that are passed (p), or not. -/
def passTo (c : Code) (tests : List (List Int)) (b : Bool) (k : Nat) : List (List Int) := (tests.take k).filter fun t => c.passed t == b
def enough (c : Code) (tests : List (List Int)) (lines : List Int) : Bool :=
  (passTo c tests true tests.length).all fun a => (passTo c tests false tests.length).all fun b => !(same a b lines)
end Go.Bp
end
section
set_option maxRecDepth 100000
set_option linter.unusedSimpArgs false
set_option linter.unusedVariables false
namespace Go.Bp
open Go.RowKit Go.Proofs
end Go.Bp
end
section
/- Plain Lean: the lists of a given length, and the tests that fit a sheet. -/
namespace Go.Bp
open Go.RowKit
def combos : Nat → List Int → List (List Int)
  | 0, _ => [[]]
  | _ + 1, [] => []
  | m + 1, x :: l => (combos m l).map (x :: ·) ++ combos (m + 1) l
theorem combos_mem_len (l : List Int) : ∀ m, ∀ t ∈ combos m l, t.length = m := by
  induction l with
  | nil => intro m t ht; cases m <;> simp [combos] at ht; subst ht; rfl
  | cons x l ih =>
    intro m t ht
    cases m with
    | zero => simp [combos] at ht; subst ht; rfl
    | succ m =>
      simp only [combos, List.mem_append, List.mem_map] at ht
      rcases ht with ⟨u, hu, rfl⟩ | ht
      · simp [ih m u hu]
      · exact ih (m + 1) t ht
end Go.Bp
end
section
/- Regions that draw their order, walked in ONE order: what only reads is taken first; what changes the world comes up alone. -/
set_option maxRecDepth 100000
namespace Go.Bp
open Go.RowKit Go.Proofs
section
variable {P : Program} {md : Region.Mode} {ops : Array Oper} {Q : Exit → Act → World → Prop} {S : World → Prop}
/-- (i, true): number i only reads and is taken first; (i, false): number i alone may come up. -/
def okOrder (md : Region.Mode) (ops : Array Oper) : List (Nat × Bool) → Array Bool → Bool
  | [], l => (Region.ready md ops l).isEmpty
  | (i, true) :: r, l => Region.free md ops l i && (Region.ready md ops l).contains i && okOrder md ops r (l.setIfInBounds i true)
  | (i, false) :: r, l => (Region.ready md ops l == [i]) && okOrder md ops r (l.setIfInBounds i true)
def wpSeqH (P : Program) (ops : Array Oper) (Q : Exit → Act → World → Prop) (S : World → Prop) : List (Nat × Bool) → Act → World → Prop
  | [], a, w => Q .normal a w
  | (i, true) :: r, a, w => ∃ oi v, ops[i]? = some oi ∧ YieldsIf P ops S oi v a ∧ S w ∧ wpSeqH P ops Q S r (a.put oi.dst v) w
  | (i, false) :: r, a, w => wpOp P ops Q i (fun a' w' => S w' ∧ wpSeqH P ops Q S r a' w') a w
theorem put_any (hQ : ∀ c (a : Act) (d : Tmp) (v : Value) (w : World), Q (.panic c) (a.put (some d) v) w → Q (.panic c) a w) : ∀ c (a : Act) (d : Option Tmp) (v : Value) (w : World), Q (.panic c) (a.put d v) w → Q (.panic c) a w
  | c, a, some d, v, w, h => hQ c a d v w h
  | _, _, none, _, _, h => h
theorem wpAnyH_of_seq (hs : Region.noSelect ops = true) (hQ : ∀ c (a : Act) (d : Tmp) (v : Value) (w : World), Q (.panic c) (a.put (some d) v) w → Q (.panic c) a w) :
    ∀ (order : List (Nat × Bool)) (l : Array Bool) (fuel : Nat) (a : Act) (w : World), order.length ≤ fuel → okOrder md ops order l = true → wpSeqH P ops Q S order a w → wpAnyH P md ops Q S fuel l a w
  | [], l, fuel, a, w, _, hok, h => wpAnyH_done (by simpa [okOrder] using hok) h fuel
  | (i, true) :: r, l, 0, a, w, hf, _, _ => by simp at hf
  | (i, false) :: r, l, 0, a, w, hf, _, _ => by simp at hf
  | (i, true) :: r, l, fuel + 1, a, w, hf, hok, h => by
    obtain ⟨oi, v, ho, hy, hS, h⟩ := h
    simp only [okOrder, Bool.and_eq_true] at hok
    exact wpAnyH_take ho hs hok.1.1 hok.1.2 (fun c a w h => put_any hQ c a oi.dst v w h) hy hS (wpAnyH_of_seq hs hQ r _ fuel _ _ (by simpa using hf) hok.2 h)
  | (i, false) :: r, l, fuel + 1, a, w, hf, hok, h => by
    simp only [okOrder, Bool.and_eq_true, beq_iff_eq] at hok
    refine wpAnyH_all hok.1 (by simp) fun j hj => ?_
    obtain rfl : j = i := by simpa using hj
    exact wpOp_mono (fun a' w' h' => ⟨h'.1, wpAnyH_of_seq hs hQ r _ fuel _ _ (by simpa using hf) hok.2 h'.2⟩) h
/-- The beginning. -/
theorem wp_region_order {id : Nat} {a : Act} {w : World} (order : List (Nat × Bool)) (S : World → Prop) (hm : P.follows .mixedOrders = true)
    (hs : Region.noSelect ops = true) (hf : Nat.ble order.length ops.size = true) (hok : okOrder .any ops order (Array.replicate ops.size false) = true)
    (hQ : ∀ c (a : Act) (d : Tmp) (v : Value) (w : World), Q (.panic c) (a.put (some d) v) w → Q (.panic c) a w)
    (hS : S w.drew) (h : S w.drew → wpSeqH P ops Q S order a w.drew) : (Code.region id ops true).wp P Q a w :=
  wp_region_held_drew (S := S) hm hS fun hS => wpAnyH_of_seq hs hQ order _ _ _ _ (Nat.le_of_ble_eq_true hf) hok (h hS)
variable {i : Nat} {r : List (Nat × Bool)} {o : Oper} {a : Act} {w : World}
theorem h_done (h : Q .normal a w) : wpSeqH P ops Q S [] a w := h
theorem h_take {v : Value} (ho : ops[i]? = some o) (hg : o.guard = none) (hy : ∀ w, S w → (execOp a.eval o).run P w = .ok (.value v) w) (hS : S w)
    (k : wpSeqH P ops Q S r (a.put o.dst v) w) : wpSeqH P ops Q S ((i, true) :: r) a w :=
  ⟨o, v, ho, .inl ⟨by simp [Region.wanted, hg], hy⟩, hS, k⟩
/-- What follows in a region's one order, as a post of a list of operations. -/
def thenSeq (P : Program) (ops : Array Oper) (Q : Exit → Act → World → Prop) (S : World → Prop) (r : List (Nat × Bool)) : Exit → Act → World → Prop
  | .normal, a, w => S w ∧ wpSeqH P ops Q S r a w
  | e, a, w => Q e a w
theorem upon_then {next : Act → World → Prop} {x : Result Next} (h : o.upon P a next (thenSeq P ops Q S r) x) : o.upon P a next Q x := by
  cases x with
  | ok n w' =>
    cases n with
    | enter f args => exact Calls.mono h fun e w'' he => by cases e <;> exact he
    | _ => exact h
  | halt x w' =>
    cases x <;> exact h
theorem h_list (ho : ops[i]? = some o) (h : wpList P ops (thenSeq P ops Q S r) [o] a w) : wpSeqH P ops Q S ((i, false) :: r) a w := by
  unfold wpSeqH wpOp
  simp only [ho]
  unfold wpList at h
  split
  · rename_i hw
    rw [if_pos hw] at h
    rcases h with h | ⟨h1, ⟨a2, w2, h2⟩⟩
    · exact .inl (upon_then h)
    · exact .inr ⟨h1, ⟨a2, w2, h2⟩⟩
  · rename_i hw
    rw [if_neg hw] at h
    exact h
theorem h_next (hS : S w) (k : S w → wpSeqH P ops Q S r a w) : wpList P ops (thenSeq P ops Q S r) [] a w := ⟨hS, k hS⟩
end
end Go.Bp
end
section
set_option maxRecDepth 100000
set_option linter.unusedSimpArgs false
set_option linter.unusedVariables false
namespace Go.Bp
open Go.RowKit Go.Proofs
theorem OwnI.of_blk {B g : Nat} {w : World} {n : Int} (h : Blk w g 3 #[.int .i64 n]) (hB : B ≤ g) : OwnI B w (.slice (some ⟨g, 0, none⟩) 1 1) [n] :=
  ⟨by simp [encI], .inr ⟨g, 1, _, rfl, hB, h, Nat.le_refl _, by decide, rfl, by simp [encI]⟩⟩
theorem OwnSS.of_blk {B g : Nat} {w : World} {v : Value} {xs : List Int} (h : Blk w g 26 #[v]) (hv : IntB w v xs) (hB : B ≤ g) : OwnSS B w (.slice (some ⟨g, 0, none⟩) 1 1) [xs] :=
  ⟨[v], ⟨by simp, .inr ⟨g, 1, _, rfl, hB, h, Nat.le_refl _, by decide, rfl, by simp⟩⟩, rfl, fun i u ys h1 h2 => by
    cases i with
    | zero => simp at h1 h2; subst h1 h2; exact hv
    | succ i => simp at h1⟩
theorem Apart.fresh {B : Nat} {w W : World} {v u : Value} {xss yss : List (List Int)} (hv : OwnSS B w v xss) (hu : OwnSS w.heap.size W u yss) (e : Ext w W) : Apart W v u := by
  refine ⟨?_, hu.lt, fun g hg => Nat.lt_of_lt_of_le (hv.lt g hg) e.size⟩
  cases hb : u.ownBlock with
  | none => exact .inl rfl
  | some g =>
    right
    intro e2
    obtain ⟨_, h1, _⟩ := hu
    have h3 := hv.lt g e2.symm
    have := (h1.lt g hb).1
    omega
theorem Apart.cell {w W : World} {v : Value} {ad : Addr} {n c i : Nat} {x : Value} (h : Apart w v (.slice (some ad) n c)) (hg : w.grownBy W v.ownBlock) (hc : w.cell? (ad.add i) = some x) : W.cell? (ad.add i) = some x := by
  rw [World.cell?_of_block (w := w)]
  · exact hc
  · rw [block_of_add]
    refine hg.block _ (h.2.1 _ rfl) fun e => ?_
    rcases h.1 with h1 | h1
    · simp [Value.ownBlock] at h1
    · exact h1 e
theorem IntB.nil (w : World) : IntB w (.slice none 0 0) [] := IntB.of_own (OwnI.nil 0 w)
section
variable {ops : Array Oper} {Q : Exit → Act → World → Prop} {a : Act} {w : World} {rest : List Oper}
variable {d : Option Tmp} {ty : TypeId} {pos : String} {after : Array Edge}
end
end Go.Bp
end
section
/- Plain Lean: the whole tests that fit a sheet, line by line, and by a search that gives up early. -/
namespace Go.Bp
open Go.RowKit
def allTo (k : Nat) : List Int := (List.range k).map fun i : Nat => (i : Int)
theorem allTo_succ (k : Nat) : allTo (k + 1) = allTo k ++ [(k : Int)] := by simp [allTo, List.range_succ]
theorem allTo_len (k : Nat) : (allTo k).length = k := by simp [allTo]
theorem mem_allTo {k : Nat} {x : Int} : x ∈ allTo k ↔ 0 ≤ x ∧ x < k := by
  simp only [allTo, List.mem_map, List.mem_range]
  constructor
  · rintro ⟨i, hi, rfl⟩; omega
  · intro h; exact ⟨x.toNat, by omega, by omega⟩
/-- What can be written on line n, as the first lines that were kept say. -/
def canTo (c : Code) (l : List Line) (n : Int) : List Int := l.foldl (fun acc x => if x.no = n then [x.what] else acc) (allTo c.things)
theorem fold_len (n : Int) : ∀ (l : List Line) (acc : List Int), (l.foldl (fun acc x => if x.no = n then [x.what] else acc) acc).length = if keptB l n = true then 1 else acc.length
  | [], acc => by simp [keptB]
  | x :: l, acc => by
    rw [List.foldl_cons, fold_len n l]
    by_cases h : x.no = n <;> by_cases h2 : keptB l n = true <;> simp_all [keptB]
theorem canTo_len (c : Code) (l : List Line) (n : Int) : (canTo c l n).length = if keptB l n = true then 1 else c.things := by
  unfold canTo; rw [fold_len, allTo_len]
theorem fold_mem (n : Int) : ∀ (l : List Line) (acc : List Int) (w : Int), w ∈ l.foldl (fun acc x => if x.no = n then [x.what] else acc) acc → w ∈ acc ∨ ∃ x ∈ l, w = x.what
  | [], acc, w, h => .inl h
  | x :: l, acc, w, h => by
    rw [List.foldl_cons] at h
    rcases fold_mem n l _ w h with h | ⟨y, hy, e⟩
    · by_cases hx : x.no = n
      · rw [if_pos hx] at h; right; exact ⟨x, by simp, by simpa using h⟩
      · rw [if_neg hx] at h; exact .inl h
    · right; exact ⟨y, by simp [hy], e⟩
theorem canTo_ok {c : Code} {l : List Line} {n m : Int} (hl : ∀ x ∈ l, LineOk c m x) : ∀ w ∈ canTo c l n, 0 ≤ w ∧ w < c.things := by
  intro w hw
  rcases fold_mem n l _ w hw with h | ⟨x, hx, rfl⟩
  · exact mem_allTo.1 h
  · exact ⟨(hl x hx).what1, (hl x hx).what2⟩
/-- A list of lists, each made longer by each of some numbers. -/
def moreTo (l : List (List Int)) (can : List Int) (k : Nat) : List (List Int) := (l.take k).flatMap fun t => can.map fun w => t ++ [w]
theorem flat_len {α : Type} {m : Nat} {f : α → List (List Int)} (hf : ∀ t, (f t).length = m) : ∀ l : List α, (l.flatMap f).length = l.length * m
  | [] => by simp
  | x :: l => by rw [List.flatMap_cons, List.length_append, hf, flat_len hf l, List.length_cons, Nat.succ_mul, Nat.add_comm]
theorem moreTo_len (l : List (List Int)) (can : List Int) {k : Nat} (hk : k ≤ l.length) : (moreTo l can k).length = k * can.length := by
  unfold moreTo
  rw [flat_len (m := can.length) (fun t => by simp), List.length_take, Nat.min_eq_left hk]
/-- The first n lines of the tests. -/
def prods (c : Code) (l : List Line) : Nat → List (List Int)
  | 0 => [[]]
  | n + 1 => (prods c l n).flatMap fun t => (canTo c l ((n : Int) + 1)).map fun w => t ++ [w]
theorem prods_succ (c : Code) (l : List Line) (n : Nat) : prods c l (n + 1) = moreTo (prods c l n) (canTo c l ((n : Int) + 1)) (prods c l n).length := by
  unfold moreTo; rw [List.take_length]; rfl
theorem prods_len {c : Code} (ho : c.Ok) (l : List Line) : ∀ n, (prods c l n).length ≤ 9 ^ (lostTo l n).length
  | 0 => by simp only [prods, List.length_singleton]; exact Nat.pow_pos (by decide)
  | n + 1 => by
    have ih := prods_len ho l n
    rw [prods_succ, moreTo_len _ _ (Nat.le_refl _), canTo_len, lostTo_succ]
    have h9 := ho.thing9
    by_cases h : keptB l ((n : Int) + 1) = true
    · rw [if_pos h, if_pos h, Nat.mul_one]; exact ih
    · rw [if_neg h, if_neg h, List.length_append, List.length_singleton, Nat.pow_succ]
      exact Nat.mul_le_mul ih h9
theorem prods_ok {c : Code} {l : List Line} {m : Int} (hl : ∀ x ∈ l, LineOk c m x) : ∀ n, ∀ t ∈ prods c l n, t.length = n ∧ ∀ x ∈ t, 0 ≤ x ∧ x < c.things
  | 0 => by intro t ht; simp [prods] at ht; subst ht; simp
  | n + 1 => by
    intro t ht
    simp only [prods, List.mem_flatMap, List.mem_map] at ht
    obtain ⟨u, hu, w, hw, rfl⟩ := ht
    obtain ⟨h1, h2⟩ := prods_ok hl n u hu
    refine ⟨by simp [h1], fun x hx => ?_⟩
    rcases List.mem_append.1 hx with hx | hx
    · exact h2 x hx
    · simp at hx; subst hx; exact canTo_ok hl _ hw
/-- All whole tests that fit a sheet. -/
def tests (c : Code) (s : Sheet) : List (List Int) := (prods c s.kept s.lines.toNat).filter (fits c s)
theorem lostTo_mono (l : List Line) {n : Nat} : ∀ m, n ≤ m → (lostTo l n).length ≤ (lostTo l m).length
  | 0, h => by have : n = 0 := by omega
               subst this; exact Nat.le_refl _
  | m + 1, h => by
    by_cases e : n = m + 1
    · subst e; exact Nat.le_refl _
    · have := lostTo_mono l (n := n) m (by omega)
      rw [lostTo_succ]
      split
      · exact this
      · rw [List.length_append]; omega
theorem prods_729 {c : Code} {s : Sheet} (ho : c.Ok) (hs : s.Ok c) {n : Nat} (hn : n ≤ s.lines.toNat) : (prods c s.kept n).length ≤ 729 := by
  have h1 := prods_len ho s.kept n
  have h2 : (lostTo s.kept n).length ≤ 3 := by
    have := hs.lost3
    rw [lost_eq] at this
    have h3 := lostTo_mono s.kept s.lines.toNat hn
    omega
  have h3 : 9 ^ (lostTo s.kept n).length ≤ 9 ^ 3 := Nat.pow_le_pow_right (by decide) h2
  have : (9 : Nat) ^ 3 = 729 := rfl
  omega
theorem tests_mem {c : Code} {s : Sheet} (hs : s.Ok c) {t : List Int} (ht : t ∈ tests c s) : c.TestOk t ∧ (t.length : Int) = s.lines ∧ fits c s t = true := by
  unfold tests at ht
  obtain ⟨h1, h2⟩ := List.mem_filter.1 ht
  obtain ⟨h3, h4⟩ := prods_ok hs.line _ t h1
  have := hs.l1; have := hs.l2
  exact ⟨⟨by omega, h4⟩, by omega, h2⟩
theorem tests_len {c : Code} {s : Sheet} (ho : c.Ok) (hs : s.Ok c) : (tests c s).length ≤ 729 := by
  unfold tests
  have h1 := List.length_filter_le (fits c s) (prods c s.kept s.lines.toNat)
  have h2 := prods_729 ho hs (Nat.le_refl _)
  omega
/-! ### the search that gives up early -/
def keptAt (l : List Line) (n : Int) : Option Line := l.foldl (fun acc x => if x.no = n then some x else acc) none
def goesOn (c : Code) (l : List Line) (p : List Int) (w : Int) : Bool := match keptAt l ((p.length : Int) + 1) with | some x => decide (w = x.what) && decide (c.total (p ++ [w]) = x.sum) | none => true
def dfs (c : Code) (l : List Line) : Nat → List Int → List (List Int)
  | 0, p => [p]
  | r + 1, p => (allTo c.things).flatMap fun w => if goesOn c l p w = true then dfs c l r (p ++ [w]) else []
def dfsTo (c : Code) (l : List Line) (r : Nat) (p : List Int) (k : Nat) : List (List Int) := (allTo k).flatMap fun w => if goesOn c l p w = true then dfs c l r (p ++ [w]) else []
theorem dfsTo_succ (c : Code) (l : List Line) (r : Nat) (p : List Int) (k : Nat) : dfsTo c l r p (k + 1) = dfsTo c l r p k ++ if goesOn c l p k = true then dfs c l r (p ++ [(k : Int)]) else [] := by
  simp [dfsTo, allTo_succ]
theorem dfs_succ (c : Code) (l : List Line) (r : Nat) (p : List Int) : dfs c l (r + 1) p = dfsTo c l r p c.things := rfl
end Go.Bp
end
section
/- Plain Lean: the search that gives up early finds the tests that fit, in order. -/
namespace Go.Bp
open Go.RowKit
theorem flatMap_same {α β : Type} {f g : α → List β} : ∀ {l : List α}, (∀ t ∈ l, f t = g t) → l.flatMap f = l.flatMap g
  | [], _ => rfl
  | x :: l, h => by rw [List.flatMap_cons, List.flatMap_cons, h x (by simp), flatMap_same fun t ht => h t (by simp [ht])]
theorem flatMap_nothing {α β : Type} {f : α → List β} : ∀ {l : List α}, (∀ t ∈ l, f t = []) → l.flatMap f = []
  | [], _ => rfl
  | x :: l, h => by rw [List.flatMap_cons, h x (by simp), flatMap_nothing fun t ht => h t (by simp [ht])]; rfl
theorem filter_flat {α β : Type} {f : α → List β} {p : β → Bool} : ∀ l : List α, (l.flatMap f).filter p = l.flatMap fun x => (f x).filter p
  | [] => rfl
  | x :: l => by rw [List.flatMap_cons, List.flatMap_cons, List.filter_append, filter_flat l]
theorem flat_flat {α β γ : Type} {f : α → List β} {g : β → List γ} : ∀ l : List α, (l.flatMap f).flatMap g = l.flatMap fun x => (f x).flatMap g
  | [] => rfl
  | x :: l => by rw [List.flatMap_cons, List.flatMap_cons, List.flatMap_append, flat_flat l]
theorem flat_map {α β γ : Type} {f : α → β} {g : β → List γ} : ∀ l : List α, (l.map f).flatMap g = l.flatMap fun x => g (f x)
  | [] => rfl
  | x :: l => by rw [List.map_cons, List.flatMap_cons, List.flatMap_cons, flat_map l]
theorem flat_one {α : Type} : ∀ l : List α, (l.flatMap fun x => [x]) = l
  | [] => rfl
  | x :: l => by rw [List.flatMap_cons, flat_one l]; rfl
theorem allTo_single {β : Type} {g : Int → List β} {a : Int} (hg : ∀ w, w ≠ a → g w = []) : ∀ k : Nat, 0 ≤ a → a < k → (allTo k).flatMap g = g a
  | 0, h0, h1 => by omega
  | k + 1, h0, h1 => by
    rw [allTo_succ, List.flatMap_append, List.flatMap_cons, List.flatMap_nil, List.append_nil]
    by_cases h : a = (k : Int)
    · subst h
      rw [flatMap_nothing fun t ht => hg t (by have := mem_allTo.1 ht; omega)]; rfl
    · rw [allTo_single hg k h0 (by omega), hg _ (fun e => h e.symm), List.append_nil]
theorem keptAt_fold (n : Int) : ∀ (l : List Line) (acc : Option Line) (x : Line), l.foldl (fun acc x => if x.no = n then some x else acc) acc = some x → acc = some x ∨ (x ∈ l ∧ x.no = n)
  | [], acc, x, h => .inl h
  | y :: l, acc, x, h => by
    rw [List.foldl_cons] at h
    rcases keptAt_fold n l _ x h with h | ⟨h1, h2⟩
    · by_cases hy : y.no = n
      · rw [if_pos hy] at h; injection h with h; subst h; exact .inr ⟨by simp, hy⟩
      · rw [if_neg hy] at h; exact .inl h
    · exact .inr ⟨by simp [h1], h2⟩
theorem keptAt_some {l : List Line} {n : Int} {x : Line} (h : keptAt l n = some x) : x ∈ l ∧ x.no = n := by
  rcases keptAt_fold n l none x h with h | h
  · cases h
  · exact h
theorem keptAt_keep (n : Int) : ∀ (l : List Line) (acc : Option Line), (l.foldl (fun acc x => if x.no = n then some x else acc) acc = none → acc = none ∧ ∀ x ∈ l, x.no ≠ n)
  | [], acc, h => ⟨h, by simp⟩
  | y :: l, acc, h => by
    rw [List.foldl_cons] at h
    obtain ⟨h1, h2⟩ := keptAt_keep n l _ h
    by_cases hy : y.no = n
    · rw [if_pos hy] at h1; cases h1
    · rw [if_neg hy] at h1
      refine ⟨h1, fun x hx => ?_⟩
      rcases List.mem_cons.1 hx with rfl | hx
      · exact hy
      · exact h2 x hx
theorem keptAt_none {l : List Line} {n : Int} (h : keptAt l n = none) : ∀ x ∈ l, x.no ≠ n := (keptAt_keep n l none h).2
theorem can_kept_fold (n : Int) : ∀ (l : List Line) (all : List Int) (acc : Option Line),
    l.foldl (fun acc x => if x.no = n then [x.what] else acc) (match acc with | some x => [x.what] | none => all) = match l.foldl (fun acc x => if x.no = n then some x else acc) acc with | some x => [x.what] | none => all
  | [], all, acc => rfl
  | y :: l, all, acc => by
    rw [List.foldl_cons, List.foldl_cons, ← can_kept_fold n l all]
    by_cases hy : y.no = n <;> simp [hy]
theorem canTo_kept (c : Code) (l : List Line) (n : Int) : canTo c l n = match keptAt l n with | some x => [x.what] | none => allTo c.things := can_kept_fold n l (allTo c.things) none
theorem rises_lt : ∀ {l : List Line} {prev : Option Int}, Rises prev l → ∀ x ∈ l, ∀ y, prev = some y → y < x.no
  | [], _, _, x, hx => by simp at hx
  | z :: l, prev, h, x, hx => by
    intro y hy
    subst hy
    obtain ⟨h1, h2⟩ := h
    have h1 : y < z.no := by simpa using h1
    rcases List.mem_cons.1 hx with rfl | hx
    · exact h1
    · have := rises_lt h2 x hx _ rfl; omega
theorem rises_unique : ∀ {l : List Line} {prev : Option Int}, Rises prev l → ∀ x ∈ l, ∀ y ∈ l, x.no = y.no → x = y
  | [], _, _, x, hx => by simp at hx
  | z :: l, prev, h, x, hx => by
    intro y hy e
    obtain ⟨h1, h2⟩ := h
    rcases List.mem_cons.1 hx with hx1 | hx1
    · rcases List.mem_cons.1 hy with hy1 | hy1
      · rw [hx1, hy1]
      · have := rises_lt h2 y hy1 _ rfl; rw [hx1] at e; omega
    · rcases List.mem_cons.1 hy with hy1 | hy1
      · have := rises_lt h2 x hx1 _ rfl; rw [hy1] at e; omega
      · exact rises_unique h2 x hx1 y hy1 e
theorem keptAt_mem {l : List Line} {prev : Option Int} (h : Rises prev l) {x : Line} (hx : x ∈ l) : keptAt l x.no = some x := by
  cases hk : keptAt l x.no with
  | none => exact absurd rfl (keptAt_none hk x hx)
  | some y =>
    obtain ⟨h1, h2⟩ := keptAt_some hk
    rw [rises_unique h y h1 x hx h2]
/-- All lists of a length that go on from p. -/
def pr (c : Code) (l : List Line) : Nat → List Int → List (List Int)
  | 0, p => [p]
  | r + 1, p => (canTo c l ((p.length : Int) + 1)).flatMap fun w => pr c l r (p ++ [w])
theorem pr_app (c : Code) (l : List Line) : ∀ (r : Nat) (p t : List Int), t ∈ pr c l r p → ∃ q, t = p ++ q ∧ q.length = r
  | 0, p, t, h => by simp [pr] at h; exact ⟨[], by simp [h], rfl⟩
  | r + 1, p, t, h => by
    simp only [pr, List.mem_flatMap] at h
    obtain ⟨w, _, h⟩ := h
    obtain ⟨q, rfl, hq⟩ := pr_app c l r _ t h
    exact ⟨w :: q, by simp, by simp [hq]⟩
theorem prods_pr {c : Code} {l : List Line} {m : Int} (hl : ∀ x ∈ l, LineOk c m x) : ∀ r n, prods c l (n + r) = (prods c l n).flatMap (pr c l r)
  | 0, n => by
    have : pr c l 0 = fun p => [p] := by funext p; rfl
    rw [this, flat_one]; rfl
  | r + 1, n => by
    have e : n + (r + 1) = (n + 1) + r := by omega
    rw [e, prods_pr hl r (n + 1)]
    show ((prods c l n).flatMap fun t => (canTo c l ((n : Int) + 1)).map fun w => t ++ [w]).flatMap (pr c l r) = _
    rw [flat_flat]
    refine flatMap_same fun t ht => ?_
    rw [flat_map]
    have := (prods_ok hl n t ht).1
    rw [pr, this]
theorem lineFits_app (c : Code) (p q : List Int) {x : Line} (h1 : 1 ≤ x.no) (h2 : x.no ≤ p.length) : lineFits c (p ++ q) x = lineFits c p x := by
  unfold lineFits
  have e1 : (p ++ q).getD (x.no - 1).toNat 0 = p.getD (x.no - 1).toNat 0 := by
    simp only [List.getD, List.getElem?_append_left (show (x.no - 1).toNat < p.length by omega)]
  have e2 : (p ++ q).take x.no.toNat = p.take x.no.toNat := List.take_append_of_le_length (by omega)
  rw [e1, e2]
theorem lineFits_last (c : Code) (p : List Int) (w : Int) {x : Line} (h : x.no = (p.length : Int) + 1) : lineFits c (p ++ [w]) x = (decide (w = x.what) && decide (c.total (p ++ [w]) = x.sum)) := by
  unfold lineFits
  have e0 : (x.no - 1).toNat = p.length := by omega
  have e1 : (p ++ [w]).getD (x.no - 1).toNat 0 = w := by rw [e0]; simp [List.getD]
  have e2 : (p ++ [w]).take x.no.toNat = p ++ [w] := List.take_of_length_le (by simp; omega)
  rw [e1, e2]
theorem pr_dfs {c : Code} {s : Sheet} (hs : s.Ok c) : ∀ (r : Nat) (p : List Int), (p.length : Int) + r = s.lines → (∀ x ∈ s.kept, x.no ≤ p.length → lineFits c p x = true) →
    (pr c s.kept r p).filter (fits c s) = dfs c s.kept r p
  | 0, p, hl, hp => by
    have : fits c s p = true := by
      refine fits_yes (by omega) fun j hj => hp _ (List.getElem_mem hj) ?_
      have := (hs.line _ (List.getElem_mem hj)).no2; omega
    simp [pr, dfs, this]
  | r + 1, p, hl, hp => by
    have key : ∀ w, (pr c s.kept r (p ++ [w])).filter (fits c s) = if goesOn c s.kept p w = true then dfs c s.kept r (p ++ [w]) else [] := by
      intro w
      by_cases hg : goesOn c s.kept p w = true
      · rw [if_pos hg]
        refine pr_dfs hs r (p ++ [w]) (by simp; omega) fun x hx hn => ?_
        have h1 := (hs.line x hx).no1
        by_cases hxl : x.no ≤ p.length
        · rw [lineFits_app c p [w] h1 hxl]; exact hp x hx hxl
        · have hxe : x.no = (p.length : Int) + 1 := by simp at hn; omega
          rw [lineFits_last c p w hxe]
          unfold goesOn at hg
          rw [← hxe, keptAt_mem hs.rises hx] at hg
          exact hg
      · rw [if_neg hg]
        unfold goesOn at hg
        cases hk : keptAt s.kept ((p.length : Int) + 1) with
        | none => rw [hk] at hg; simp at hg
        | some x =>
          rw [hk] at hg
          obtain ⟨hx, hxe⟩ := keptAt_some hk
          rw [List.filter_eq_nil_iff]
          intro t ht
          obtain ⟨q, rfl, _⟩ := pr_app c s.kept r _ t ht
          obtain ⟨j, hj, rfl⟩ := List.mem_iff_getElem.1 hx
          rw [fits_no hj]
          · simp
          · rw [lineFits_app c (p ++ [w]) q (hs.line _ hx).no1 (by simp; omega), lineFits_last c p w hxe]
            simpa using hg
    unfold pr
    rw [filter_flat, flatMap_same fun w _ => key w, dfs, canTo_kept]
    cases hk : keptAt s.kept ((p.length : Int) + 1) with
    | none => rfl
    | some x =>
      obtain ⟨hx, hxe⟩ := keptAt_some hk
      have hlo := hs.line x hx
      simp only []
      rw [List.flatMap_cons, List.flatMap_nil, List.append_nil]
      refine (allTo_single (g := fun w => if goesOn c s.kept p w = true then dfs c s.kept r (p ++ [w]) else []) (a := x.what) (fun w hw => ?_) c.things hlo.what1 hlo.what2).symm
      have : goesOn c s.kept p w = false := by unfold goesOn; rw [hk]; simp [hw]
      rw [this]; rfl
theorem tests_dfs {c : Code} {s : Sheet} (hs : s.Ok c) : dfs c s.kept s.lines.toNat [] = tests c s := by
  have := hs.l1
  rw [← pr_dfs hs s.lines.toNat [] (by simp; omega) fun x hx hn => by have := (hs.line x hx).no1; simp at hn; omega]
  unfold tests
  have h := prods_pr hs.line s.lines.toNat 0
  rw [Nat.zero_add] at h
  rw [h]
  simp [prods]
end Go.Bp
end
section
/- Plain Lean: the first of the shortest lists; struck lines; enough lines by keys. -/
namespace Go.Bp
open Go.RowKit
/-- The first of the shortest lists of numbers of ls for which p holds. -/
def fewestBy (p : List Int → Bool) (ls : List Int) : Option (List Int) := (List.range (ls.length + 1)).findSome? fun m => (combos m ls).find? p
/-- The error of a code and a sheet that some test has to fit. -/
def fittingErr (c : Code) (s : Sheet) : Int := if s.asked c ≠ 0 then s.asked c else if tests c s = [] then 9 else 0
theorem fittingErr_zero {c : Code} {s : Sheet} (h : fittingErr c s = 0) : c.Ok ∧ s.Ok c ∧ tests c s ≠ [] := by
  unfold fittingErr at h
  split at h
  · rename_i h1; exact absurd h h1
  · rename_i h1
    have h1 : s.asked c = 0 := by simpa using h1
    split at h
    · cases h
    · rename_i h2
      unfold Sheet.asked at h1
      split at h1
      · rename_i h3; exact absurd h1 h3
      · rename_i h3
        exact ⟨Code.ok_of_check (by simpa using h3), Sheet.ok_of_err h1, h2⟩
theorem asked_zero {c : Code} {s : Sheet} (h : s.asked c = 0) : c.Ok ∧ s.Ok c := by
  unfold Sheet.asked at h
  split at h
  · rename_i h3; exact absurd h h3
  · rename_i h3
    exact ⟨Code.ok_of_check (by simpa using h3), Sheet.ok_of_err h⟩
def fitsAns (c : Code) (s : Sheet) : Int × Int := if s.asked c ≠ 0 then (0, s.asked c) else ((tests c s).length, 0)
def outcomeOf (c : Code) (s : Sheet) : Int := if (tests c s).all c.passed = true then 1 else if (tests c s).any c.passed = true then 2 else 0
def outcomeAns (c : Code) (s : Sheet) : Int × Int := if fittingErr c s ≠ 0 then (0, fittingErr c s) else (outcomeOf c s, 0)
def showOf (c : Code) (s : Sheet) (b : Bool) : Option (List Int) := (tests c s).find? fun t => c.passed t == b
def showAns (c : Code) (s : Sheet) (b : Bool) : List Int × Int := if fittingErr c s ≠ 0 then ([], fittingErr c s) else match showOf c s b with | some t => (t, 0) | none => ([], 4)
def enoughErr (c : Code) (s : Sheet) (ls : List Int) : Int := if fittingErr c s ≠ 0 then fittingErr c s else rising (hasB s.lost) ls
def enoughAns (c : Code) (s : Sheet) (ls : List Int) : Bool × Int := if enoughErr c s ls ≠ 0 then (false, enoughErr c s ls) else (enough c (tests c s) ls, 0)
def fewestOf (c : Code) (s : Sheet) : List Int := (fewestBy (enough c (tests c s)) s.lost).getD s.lost
def fewestAns (c : Code) (s : Sheet) : List Int × Int := if fittingErr c s ≠ 0 then ([], fittingErr c s) else (fewestOf c s, 0)
/-- Does it help to strike these lines? -/
def helps (c : Code) (t ls : List Int) : Bool := (without c t ls).2 && c.passed (without c t ls).1
def appealAns (c : Code) (t : List Int) : List Int × Int := if c.whole t ≠ 0 then ([], c.whole t) else match fewestBy (helps c t) (numbers t.length) with | some l => (l, 0) | none => ([], 9)
def keepErr (c : Code) (t lost : List Int) : Int := if c.whole t ≠ 0 then c.whole t else if rising (hasB (numbers t.length)) lost ≠ 0 then rising (hasB (numbers t.length)) lost else if lost.length ≤ 3 then 0 else 3
/-- The lines that are kept, of the first k. -/
def keptTo (c : Code) (t lost : List Int) : Nat → List Line
  | 0 => []
  | k + 1 => keptTo c t lost k ++ if hasB lost ((k : Int) + 1) = true then [] else [⟨(k : Int) + 1, t.getD k 0, c.total (t.take (k + 1))⟩]
def keepAns (c : Code) (t lost : List Int) : Sheet × Int := if keepErr c t lost ≠ 0 then (⟨0, []⟩, keepErr c t lost) else (⟨t.length, keptTo c t lost t.length⟩, 0)
theorem keptTo_len (c : Code) (t lost : List Int) : ∀ k, (keptTo c t lost k).length ≤ k
  | 0 => by simp [keptTo]
  | k + 1 => by
    have := keptTo_len c t lost k
    unfold keptTo
    rw [List.length_append]
    split <;> simp <;> omega
theorem keptTo_yes {c : Code} {t lost : List Int} {k : Nat} (h : hasB lost ((k : Int) + 1) = true) : keptTo c t lost (k + 1) = keptTo c t lost k := by
  rw [keptTo, if_pos h, List.append_nil]
theorem keptTo_no {c : Code} {t lost : List Int} {k : Nat} (hk : k < t.length) (h : hasB lost ((k : Int) + 1) = false) : keptTo c t lost (k + 1) = keptTo c t lost k ++ [⟨(k : Int) + 1, t[k], c.total (t.take (k + 1))⟩] := by
  rw [keptTo, if_neg (by simp [h])]; simp [List.getD, hk]
/-! ### found and not found -/
theorem fewestBy_some {p : List Int → Bool} {ls l : List Int} {m : Nat} (hm : m ≤ ls.length) (hb : ∀ j, j < m → ∀ x ∈ combos j ls, p x = false) (hf : (combos m ls).find? p = some l) : fewestBy p ls = some l := by
  unfold fewestBy
  rw [List.findSome?_eq_some_iff]
  refine ⟨List.range m, m, List.range' (m + 1) (ls.length - m), ?_, hf, ?_⟩
  · apply List.ext_getElem
    · simp; omega
    · intro j h1 h2
      simp only [List.getElem_range, List.getElem_append, List.length_range, List.getElem_cons, List.getElem_range']
      split
      · rfl
      · split <;> omega
  · intro j hj
    rw [List.find?_eq_none]
    intro x hx
    simp [hb j (by simpa using hj) x hx]
theorem fewestBy_none {p : List Int → Bool} {ls : List Int} (hb : ∀ j, j ≤ ls.length → ∀ x ∈ combos j ls, p x = false) : fewestBy p ls = none := by
  unfold fewestBy
  rw [List.findSome?_eq_none_iff]
  intro j hj
  rw [List.find?_eq_none]
  intro x hx
  simp [hb j (by have := List.mem_range.1 hj; omega) x hx]
end Go.Bp
end
section
/- Regions that draw their order, where two operations may come up at once. -/
set_option maxRecDepth 100000
namespace Go.Bp
open Go.RowKit Go.Proofs
section
variable {P : Program} {ops : Array Oper} {Q : Exit → Act → World → Prop} {a : Act} {w : World} {rest : List Oper}
/-- A call, by its contract. -/
theorem q_call {o : Oper} (hg : o.guard = none) {f : FuncId} {args : Array Value} {R : Ending → World → Prop} (hc : Calls P f args w R) (hr : (execOp a.eval o).run P w = .ok (.enter f args) w)
    (hn : ∀ e w', R e w' → ∃ v, e = .returned v ∧ wpList P ops Q rest (a.put o.dst v) w') : wpList P ops Q (o :: rest) a w := by
  refine wpList_plain hg fun K hK => ?_
  unfold Oper.wp
  rw [hr]
  refine Calls.mono hc fun e w' he => ?_
  obtain ⟨v, rfl, hk⟩ := hn e w' he
  exact hK _ _ hk
end
/-- take i: number i only reads and is taken first; one i: i alone may come up; two i j: either may. -/
inductive OTree where
  | nil
  | take (i : Nat) (r : OTree)
  | one (i : Nat) (r : OTree)
  | two (i : Nat) (r : OTree) (j : Nat) (s : OTree)
def OTree.depth : OTree → Nat
  | .nil => 0
  | .take _ r => r.depth + 1
  | .one _ r => r.depth + 1
  | .two _ r _ s => max r.depth s.depth + 1
section
variable {P : Program} {md : Region.Mode} {ops : Array Oper} {Q : Exit → Act → World → Prop} {S : World → Prop}
def okTree (md : Region.Mode) (ops : Array Oper) : OTree → Array Bool → Bool
  | .nil, l => (Region.ready md ops l).isEmpty
  | .take i r, l => Region.free md ops l i && (Region.ready md ops l).contains i && okTree md ops r (l.setIfInBounds i true)
  | .one i r, l => (Region.ready md ops l == [i]) && okTree md ops r (l.setIfInBounds i true)
  | .two i r j s, l => (Region.ready md ops l == [i, j]) && okTree md ops r (l.setIfInBounds i true) && okTree md ops s (l.setIfInBounds j true)
def wpTree (P : Program) (ops : Array Oper) (Q : Exit → Act → World → Prop) (S : World → Prop) : OTree → Act → World → Prop
  | .nil, a, w => Q .normal a w
  | .take i r, a, w => ∃ oi v, ops[i]? = some oi ∧ YieldsIf P ops S oi v a ∧ S w ∧ wpTree P ops Q S r (a.put oi.dst v) w
  | .one i r, a, w => wpOp P ops Q i (fun a' w' => S w' ∧ wpTree P ops Q S r a' w') a w
  | .two i r j s, a, w => wpOp P ops Q i (fun a' w' => S w' ∧ wpTree P ops Q S r a' w') a w ∧ wpOp P ops Q j (fun a' w' => S w' ∧ wpTree P ops Q S s a' w') a w
theorem wpAnyH_of_tree (hs : Region.noSelect ops = true) (hQ : ∀ c (a : Act) (d : Tmp) (v : Value) (w : World), Q (.panic c) (a.put (some d) v) w → Q (.panic c) a w) :
    ∀ (t : OTree) (l : Array Bool) (fuel : Nat) (a : Act) (w : World), t.depth ≤ fuel → okTree md ops t l = true → wpTree P ops Q S t a w → wpAnyH P md ops Q S fuel l a w
  | .nil, l, fuel, a, w, _, hok, h => wpAnyH_done (by simpa [okTree] using hok) h fuel
  | .take i r, l, 0, a, w, hf, _, _ => by simp [OTree.depth] at hf
  | .one i r, l, 0, a, w, hf, _, _ => by simp [OTree.depth] at hf
  | .two i r j s, l, 0, a, w, hf, _, _ => by simp [OTree.depth] at hf
  | .take i r, l, fuel + 1, a, w, hf, hok, h => by
    obtain ⟨oi, v, ho, hy, hS, h⟩ := h
    simp only [okTree, Bool.and_eq_true] at hok
    exact wpAnyH_take ho hs hok.1.1 hok.1.2 (fun c a w h => put_any hQ c a oi.dst v w h) hy hS (wpAnyH_of_tree hs hQ r _ fuel _ _ (by simpa [OTree.depth] using hf) hok.2 h)
  | .one i r, l, fuel + 1, a, w, hf, hok, h => by
    simp only [okTree, Bool.and_eq_true, beq_iff_eq] at hok
    refine wpAnyH_all hok.1 (by simp) fun j hj => ?_
    obtain rfl : j = i := by simpa using hj
    exact wpOp_mono (fun a' w' h' => ⟨h'.1, wpAnyH_of_tree hs hQ r _ fuel _ _ (by simpa [OTree.depth] using hf) hok.2 h'.2⟩) h
  | .two i r j s, l, fuel + 1, a, w, hf, hok, h => by
    simp only [okTree, Bool.and_eq_true, beq_iff_eq] at hok
    obtain ⟨h1, h2⟩ := h
    have hd : r.depth ≤ fuel ∧ s.depth ≤ fuel := by simp only [OTree.depth] at hf; omega
    refine wpAnyH_all hok.1.1 (by simp) fun k hk => ?_
    have hk : k = i ∨ k = j := by simpa using hk
    rcases hk with rfl | rfl
    · exact wpOp_mono (fun a' w' h' => ⟨h'.1, wpAnyH_of_tree hs hQ r _ fuel _ _ hd.1 hok.1.2 h'.2⟩) h1
    · exact wpOp_mono (fun a' w' h' => ⟨h'.1, wpAnyH_of_tree hs hQ s _ fuel _ _ hd.2 hok.2 h'.2⟩) h2
theorem wp_region_tree {id : Nat} {a : Act} {w : World} (t : OTree) (S : World → Prop) (hm : P.follows .mixedOrders = true)
    (hs : Region.noSelect ops = true) (hf : Nat.ble t.depth ops.size = true) (hok : okTree .any ops t (Array.replicate ops.size false) = true)
    (hQ : ∀ c (a : Act) (d : Tmp) (v : Value) (w : World), Q (.panic c) (a.put (some d) v) w → Q (.panic c) a w)
    (hS : S w.drew) (h : S w.drew → wpTree P ops Q S t a w.drew) : (Code.region id ops true).wp P Q a w :=
  wp_region_held_drew (S := S) hm hS fun hS => wpAnyH_of_tree hs hQ t _ _ _ _ (Nat.le_of_ble_eq_true hf) hok (h hS)
variable {i j : Nat} {r s : OTree} {o : Oper} {a : Act} {w : World}
theorem t_done (h : Q .normal a w) : wpTree P ops Q S .nil a w := h
theorem t_take {v : Value} (ho : ops[i]? = some o) (hg : o.guard = none) (hy : ∀ w, S w → (execOp a.eval o).run P w = .ok (.value v) w) (hS : S w)
    (k : wpTree P ops Q S r (a.put o.dst v) w) : wpTree P ops Q S (.take i r) a w :=
  ⟨o, v, ho, .inl ⟨by simp [Region.wanted, hg], hy⟩, hS, k⟩
def thenTree (P : Program) (ops : Array Oper) (Q : Exit → Act → World → Prop) (S : World → Prop) (r : OTree) : Exit → Act → World → Prop
  | .normal, a, w => S w ∧ wpTree P ops Q S r a w
  | e, a, w => Q e a w
theorem upon_thenT {next : Act → World → Prop} {x : Result Next} (h : o.upon P a next (thenTree P ops Q S r) x) : o.upon P a next Q x := by
  cases x with
  | ok n w' =>
    cases n with
    | enter f args => exact Calls.mono h fun e w'' he => by cases e <;> exact he
    | _ => exact h
  | halt x w' =>
    cases x <;> exact h
theorem wpOp_list (ho : ops[i]? = some o) (h : wpList P ops (thenTree P ops Q S r) [o] a w) : wpOp P ops Q i (fun a' w' => S w' ∧ wpTree P ops Q S r a' w') a w := by
  unfold wpOp
  simp only [ho]
  unfold wpList at h
  split
  · rename_i hw
    rw [if_pos hw] at h
    rcases h with h | ⟨h1, ⟨a2, w2, h2⟩⟩
    · exact .inl (upon_thenT h)
    · exact .inr ⟨h1, ⟨a2, w2, h2⟩⟩
  · rename_i hw
    rw [if_neg hw] at h
    exact h
theorem t_one (ho : ops[i]? = some o) (h : wpList P ops (thenTree P ops Q S r) [o] a w) : wpTree P ops Q S (.one i r) a w := wpOp_list ho h
theorem t_two {o' : Oper} (ho : ops[i]? = some o) (ho' : ops[j]? = some o') (h : wpList P ops (thenTree P ops Q S r) [o] a w) (h' : wpList P ops (thenTree P ops Q S s) [o'] a w) : wpTree P ops Q S (.two i r j s) a w :=
  ⟨wpOp_list ho h, wpOp_list ho' h'⟩
theorem t_next (hS : S w) (k : S w → wpTree P ops Q S r a w) : wpList P ops (thenTree P ops Q S r) [] a w := ⟨hS, k hS⟩
end
end Go.Bp
end
section
set_option maxRecDepth 100000
set_option linter.unusedSimpArgs false
set_option linter.unusedVariables false
namespace Go.Bp
open Go.RowKit Go.Proofs
section
variable {ops : Array Oper} {Q : Exit → Act → World → Prop} {a : Act} {w : World} {rest : List Oper}
variable {d : Option Tmp} {ty : TypeId} {pos : String} {after : Array Edge}
theorem run_bslice0 (P : Program) (w : World) {t e : TypeId} {z : Value} {s : Nat} (ht : P.underlying t = some (.slice e)) (hi : (P.info? e).map (fun i => (i.zero, i.size)) = some (some z, s)) :
    (Instr.buildSlice t 0 #[]).run P w = .ok (.slice (some ⟨w.heap.size, 0, none⟩) 0 0) (w.alloc (.cells #[] e)) := by
  cases h : P.info? e with
  | none => rw [h] at hi; cases hi
  | some i =>
    rw [h] at hi
    simp only [Option.map_some, Option.some.injEq, Prod.mk.injEq] at hi
    obtain ⟨h0, h1⟩ := hi
    cases i
    dsimp only at h0 h1
    subst h0 h1
    have h0 : Array.range 0 = #[] := by decide
    simp [Instr.buildSlice, run_underlying ht, sizeOf, typeInfo, zeroValue, h, Instr.fill, newRow, newObj, Sem.run, h0]
end
theorem OwnI.of_blk0 {B g : Nat} {w : World} (h : Blk w g 3 #[]) (hB : B ≤ g) : OwnI B w (.slice (some ⟨g, 0, none⟩) 0 0) [] :=
  ⟨by simp [encI], .inr ⟨g, 0, _, rfl, hB, h, Nat.le_refl _, by decide, rfl, by simp [encI]⟩⟩
end Go.Bp
end
section
/- Plain Lean: small laws for the callers of Tests. -/
namespace Go.Bp
open Go.RowKit
theorem risingFrom_zero {p : Int → Bool} : ∀ {l : List Int} {prev : Option Int}, risingFrom p prev l = 0 → ∀ x ∈ l, p x = true
  | [], _, _, x, hx => by simp at hx
  | y :: l, prev, h, x, hx => by
    unfold risingFrom at h
    split at h
    · cases h
    · rename_i h1
      split at h
      · cases h
      · rcases List.mem_cons.1 hx with e | hx
        · rw [e]; simpa using h1
        · exact risingFrom_zero h x hx
theorem rising_zero {p : Int → Bool} {l : List Int} (h : rising p l = 0) : ∀ x ∈ l, p x = true := risingFrom_zero h
theorem mem_lost {s : Sheet} {n : Int} (h : n ∈ s.lost) : 1 ≤ n ∧ n ≤ s.lines.toNat := by
  unfold Sheet.lost at h
  exact mem_numbers.1 (List.mem_filter.1 h).1
theorem rising_lost {s : Sheet} {ls : List Int} (h : rising (hasB s.lost) ls = 0) : ∀ n ∈ ls, 1 ≤ n ∧ n ≤ s.lines.toNat := by
  intro n hn
  have := rising_zero h n hn
  exact mem_lost (by simpa [hasB] using this)
theorem combos_sub (l : List Int) : ∀ m, ∀ t ∈ combos m l, ∀ x ∈ t, x ∈ l := by
  induction l with
  | nil => intro m t ht x hx; cases m <;> simp [combos] at ht; subst ht; simp at hx
  | cons y l ih =>
    intro m t ht x hx
    cases m with
    | zero => simp [combos] at ht; subst ht; simp at hx
    | succ m =>
      simp only [combos, List.mem_append, List.mem_map] at ht
      rcases ht with ⟨u, hu, rfl⟩ | ht
      · rcases List.mem_cons.1 hx with e | hx
        · simp [e]
        · simp [ih m u hu x hx]
      · simp [ih (m + 1) t ht x hx]
theorem fitting_9 {c : Code} {s : Sheet} (h : s.asked c = 0) (h2 : tests c s = []) : fittingErr c s = 9 := by unfold fittingErr; rw [if_neg (by simp [h]), if_pos h2]
theorem fitting_0 {c : Code} {s : Sheet} (h : s.asked c = 0) (h2 : tests c s ≠ []) : fittingErr c s = 0 := by unfold fittingErr; rw [if_neg (by simp [h]), if_neg h2]
theorem show_none {c : Code} {s : Sheet} {b : Bool} (h : fittingErr c s = 0) (hb : ∀ t ∈ tests c s, c.passed t ≠ b) : showAns c s b = ([], 4) := by
  unfold showAns showOf
  rw [if_neg (by simp [h]), List.find?_eq_none.2 (fun t ht => by simp [hb t ht])]
theorem show_e {c : Code} {s : Sheet} {b : Bool} (h : fittingErr c s ≠ 0) : showAns c s b = ([], fittingErr c s) := by unfold showAns; rw [if_pos h]
theorem fewest_e {c : Code} {s : Sheet} (h : fittingErr c s ≠ 0) : fewestAns c s = ([], fittingErr c s) := by unfold fewestAns; rw [if_pos h]
theorem appeal_e {c : Code} {t : List Int} (h : c.whole t ≠ 0) : appealAns c t = ([], c.whole t) := by unfold appealAns; rw [if_pos h]
theorem left_ok {c : Code} {t ls : List Int} (ht : c.TestOk t) : c.TestOk (without c t ls).1 := by
  refine ⟨?_, fun x hx => ?_⟩
  · have h1 := leftTo_len c t ls t.length
    have h2 := ht.1
    have : (without c t ls).1 = leftTo c t ls t.length := rfl
    rw [this]; omega
  · have : (without c t ls).1 = leftTo c t ls t.length := rfl
    rw [this] at hx
    unfold leftTo at hx
    obtain ⟨i, hi, rfl⟩ := List.mem_map.1 hx
    have hi := List.mem_range.1 (List.mem_filter.1 hi).1
    have : t.getD i 0 = t[i] := by simp [List.getD, hi]
    rw [this]; exact ht.at hi
end Go.Bp
end
section
set_option maxRecDepth 100000
set_option linter.unusedSimpArgs false
set_option linter.unusedVariables false
namespace Go.Bp
open Go.RowKit Go.Proofs
/-- Two numbers. -/
def RetII (w : World) (a b : Int) (e : Ending) (w' : World) : Prop := e = .returned (.tuple #[.int .i64 a, .int .i64 b]) ∧ Ext w w'
/-- A slice of numbers, and a number. -/
def RetOI (w : World) (xs : List Int) (b : Int) (e : Ending) (w' : World) : Prop := ∃ v, e = .returned (.tuple #[v, .int .i64 b]) ∧ IntB w' v xs ∧ Ext w w'
end Go.Bp
end
section
set_option maxRecDepth 100000
set_option linter.unusedSimpArgs false
set_option linter.unusedVariables false
namespace Go.Bp
open Go.RowKit Go.Proofs
/-- A bool and a number. -/
def RetBI (w : World) (a : Bool) (b : Int) (e : Ending) (w' : World) : Prop := e = .returned (.tuple #[.bool a, .int .i64 b]) ∧ Ext w w'
end Go.Bp
end
section
set_option maxRecDepth 100000
set_option linter.unusedSimpArgs false
set_option linter.unusedVariables false
namespace Go.Bp
open Go.RowKit Go.Proofs
end Go.Bp
end
section
/- Slices of lines: literals, appends. -/
set_option maxRecDepth 100000
namespace Go.Bp
open Go.RowKit Go.Proofs
theorem ti39 : (Tryz.prog.info? 39).map (fun i => (i.zero, i.size, i.bytes)) = some (some (.agg #[.int .i64 0, .slice none 0 0]), 2, 32) := by kernel_rfl
theorem ti25 : (Tryz.prog.info? 25).map (fun i => (i.zero, i.size, i.bytes)) = some (some (.agg #[.slice none 0 0, .slice none 0 0, .int .i64 0]), 3, 56) := by kernel_rfl
theorem size39 : (Tryz.prog.info? 39).map TypeInfo.size = some 2 := by kernel_rfl
theorem size37 : (Tryz.prog.info? 37).map TypeInfo.size = some 1 := by kernel_rfl
theorem size26 : (Tryz.prog.info? 26).map TypeInfo.size = some 1 := by kernel_rfl
theorem info39 : ∃ i, Tryz.prog.info? 39 = some i ∧ i.size = 2 := size_of size39
theorem run_bslice3 (P : Program) (w : World) {t e : TypeId} {v z a b c : Value} (ht : P.underlying t = some (.slice e)) (hi : (P.info? e).map (fun i => (i.zero, i.size)) = some (some z, 3)) (hz : z.cells.size = 3) (hv : v.cells = #[a, b, c]) :
    (Instr.buildSlice t 1 #[(0, v)]).run P w = .ok (.slice (some ⟨w.heap.size, 0, none⟩) 1 1) (w.alloc (.cells #[a, b, c] e)) := by
  cases h : P.info? e with
  | none => rw [h] at hi; cases hi
  | some i =>
    rw [h] at hi
    simp only [Option.map_some, Option.some.injEq, Prod.mk.injEq] at hi
    obtain ⟨h0, h1⟩ := hi
    cases i
    dsimp only at h0 h1
    subst h0 h1
    have h3 : Array.range 3 = #[0, 1, 2] := by decide
    simp [Instr.buildSlice, run_underlying ht, sizeOf, typeInfo, zeroValue, h, Instr.fill, hz, hv, newRow, newObj, Sem.run, h3]
section
variable {ops : Array Oper} {Q : Exit → Act → World → Prop} {a : Act} {w : World} {rest : List Oper}
variable {d : Option Tmp} {ty : TypeId} {pos : String} {after : Array Edge}
theorem q_bsL {x : Operand} {p q r : Int} (hx : a.eval x = .agg #[.int .i64 p, .int .i64 q, .int .i64 r])
    (k : ∀ W g, Ext w W → Blk W g 99 #[.int .i64 p, .int .i64 q, .int .i64 r] → w.heap.size ≤ g → wpList Tryz.prog ops Q rest (a.put d (.slice (some ⟨g, 0, none⟩) 1 1)) W) :
    wpList Tryz.prog ops Q (⟨d, .buildSlice 37 1 #[(0, x)], ty, pos, after, none⟩ :: rest) a w :=
  q_bslice (by have := run_bslice3 Tryz.prog w (v := a.eval x) (a := .int .i64 p) (b := .int .i64 q) (c := .int .i64 r) Tryz.underlying37 (ti2 ti99) rfl (by rw [hx]; rfl); simpa using this) k
/-- 'out = append(out, x)', out []ShLine. -/
theorem q_appL {s x : Operand} {B g : Nat} {v : Value} {xs : List Line} {y : Line} (hs : a.eval s = v) (hO : OwnL B w v xs) (hx : a.eval x = .slice (some ⟨g, 0, none⟩) 1 1) (hb : Blk w g 99 #[.int .i64 y.no, .int .i64 y.what, .int .i64 y.sum]) (hlen : xs.length ≤ 1000000000) (hB : B ≤ w.heap.size)
    (k : ∀ v' W, OwnL B W v' (xs ++ [y]) → (∀ w0, Below B w0 w → Below B w0 W) → w.grownBy W v.ownBlock → wpList Tryz.prog ops Q rest (a.put d v') W) :
    wpList Tryz.prog ops Q (⟨d, .call { callee := .builtin .append, args := #[s, x], argTypes := #[37, 37] }, ty, pos, after, none⟩ :: rest) a w := by
  refine q_append Tryz.underlying37 ti99 rfl (by decide) hs hO hx (fun _ => ⟨_, rfl, hb.cells⟩) (by simp) (by simp [Value.oneCell']) (by omega) (by unfold maxLen; omega) hB ?_
  intro v' W h1 h2 _
  refine k v' W ?_ (fun w0 h0 => grown_ext h0 hO h2 hB) h2
  unfold OwnL
  have e : encL (xs ++ [y]) = encL xs ++ [.int .i64 y.no, .int .i64 y.what, .int .i64 y.sum] := by rw [encL_app]; rfl
  rw [e]
  simpa using h1
end
/-- A sheet, by value, and a number. -/
def RetSI (w : World) (s : Sheet) (b : Int) (e : Ending) (w' : World) : Prop := ∃ v, e = .returned (.tuple #[v, .int .i64 b]) ∧ SheetV w' v s ∧ Ext w w'
theorem ld_sheet {w : World} {g : Nat} {n : Int} {kv : Value} (h : Blk w g 39 #[.int .i64 n, kv]) : (loadVar 39 ⟨g, 0, none⟩).run Tryz.prog w = .ok (.agg #[.int .i64 n, kv]) w := by
  obtain ⟨i, hi, hs⟩ := info39
  exact load_struct (cs := [.int .i64 n, kv]) Tryz.underlying39 hi (by rw [hs]; rfl) (by simpa using h.cells)
end Go.Bp
end
section
set_option maxRecDepth 100000
set_option linter.unusedSimpArgs false
set_option linter.unusedVariables false
namespace Go.Bp
open Go.RowKit Go.Proofs
theorem keepErr_w {c : Code} {t lo : List Int} (h : c.whole t ≠ 0) : keepErr c t lo = c.whole t := by unfold keepErr; rw [if_pos h]
theorem keepErr_r {c : Code} {t lo : List Int} (h : c.whole t = 0) (h2 : rising (hasB (numbers t.length)) lo ≠ 0) : keepErr c t lo = rising (hasB (numbers t.length)) lo := by unfold keepErr; rw [if_neg (by simp [h]), if_pos h2]
theorem keepErr_3 {c : Code} {t lo : List Int} (h : c.whole t = 0) (h2 : rising (hasB (numbers t.length)) lo = 0) (h3 : ¬ lo.length ≤ 3) : keepErr c t lo = 3 := by unfold keepErr; rw [if_neg (by simp [h]), if_neg (by simp [h2]), if_neg h3]
theorem keepErr_0 {c : Code} {t lo : List Int} (h : c.whole t = 0) (h2 : rising (hasB (numbers t.length)) lo = 0) (h3 : lo.length ≤ 3) : keepErr c t lo = 0 := by unfold keepErr; rw [if_neg (by simp [h]), if_neg (by simp [h2]), if_pos h3]
theorem keep_e {c : Code} {t lo : List Int} (h : keepErr c t lo ≠ 0) : keepAns c t lo = (⟨0, []⟩, keepErr c t lo) := by unfold keepAns; rw [if_pos h]
theorem keep_0 {c : Code} {t lo : List Int} (h : keepErr c t lo = 0) : keepAns c t lo = (⟨t.length, keptTo c t lo t.length⟩, 0) := by unfold keepAns; rw [if_neg (by simp [h])]
end Go.Bp
end
section
/- Plain Lean: texts of sheets. -/
namespace Go.Bp
open Go.RowKit
/-- A string, by its bytes. -/
def S (l : List UInt8) : ByteArray := ⟨l.toArray⟩
theorem S_app (a b : List UInt8) : S a ++ S b = S (a ++ b) := by
  apply Go.WideShapes.bytes_inj
  simp [S]
theorem S_data (s : ByteArray) : S s.data.toList = s := Go.WideShapes.bytes_inj (by simp [S])
theorem S_list (l : List UInt8) : (S l).data.toList = l := by simp [S]
theorem S_size (l : List UInt8) : (S l).size = l.length := by simp [S, ByteArray.size]
theorem S_inj {a b : List UInt8} (h : S a = S b) : a = b := by have := congrArg (fun s => s.data.toList) h; simpa [S_list] using this
/-- The decimal form of a number that is not below 0, with fuel. -/
def digitsF : Nat → Nat → List UInt8
  | 0, _ => []
  | f + 1, n => (if 10 ≤ n then digitsF f (n / 10) else []) ++ [UInt8.ofNat (48 + n % 10)]
def digits (n : Nat) : List UInt8 := digitsF (n + 1) n
theorem digitsF_eq : ∀ (f n : Nat), n < f → ∀ g, n < g → digitsF f n = digitsF g n
  | 0, n, h, _, _ => by omega
  | f + 1, n, h, 0, hg => by omega
  | f + 1, n, h, g + 1, hg => by
    unfold digitsF
    by_cases h10 : 10 ≤ n
    · rw [if_pos h10, if_pos h10, digitsF_eq f (n / 10) (by omega) g (by omega)]
    · rw [if_neg h10, if_neg h10]
theorem digits_small {n : Nat} (h : n < 10) : digits n = [UInt8.ofNat (48 + n % 10)] := by
  unfold digits digitsF; rw [if_neg (by omega)]; rfl
theorem digits_big {n : Nat} (h : 10 ≤ n) : digits n = digits (n / 10) ++ [UInt8.ofNat (48 + n % 10)] := by
  unfold digits
  rw [digitsF, if_pos h, digitsF_eq n (n / 10) (by omega) (n / 10 + 1) (by omega)]
theorem digitsF_len : ∀ (f n : Nat), (digitsF f n).length ≤ f
  | 0, _ => by simp [digitsF]
  | f + 1, n => by
    unfold digitsF
    have := digitsF_len f (n / 10)
    rw [List.length_append]
    split <;> simp <;> omega
theorem digits_len (n : Nat) : (digits n).length ≤ n + 1 := digitsF_len _ _
end Go.Bp
namespace Go.Bp
open Go.RowKit
def nameAt (c : Code) (w : Int) : List UInt8 := (c.names.getD w.toNat ByteArray.empty).data.toList
def rowText (c : Code) (x : Line) : List UInt8 := digits x.no.toNat ++ [32] ++ nameAt c x.what ++ [32] ++ digits x.sum.toNat ++ [10]
def textTo (c : Code) (s : Sheet) (k : Nat) : List UInt8 := digits s.lines.toNat ++ [10] ++ (s.kept.take k).flatMap (rowText c)
def textOf (c : Code) (s : Sheet) : List UInt8 := digits s.lines.toNat ++ [10] ++ s.kept.flatMap (rowText c)
theorem textTo_succ (c : Code) (s : Sheet) {k : Nat} (hk : k < s.kept.length) : textTo c s (k + 1) = textTo c s k ++ rowText c s.kept[k] := by
  unfold textTo; rw [take_snoc _ hk, List.flatMap_append]; simp
theorem nameErr_name {l : List ByteArray} {i : Nat} (h : nameErr l i = 0) : isName (l.getD i ByteArray.empty) = true := by
  cases hb : isName (l.getD i ByteArray.empty) with
  | true => rfl
  | false => rw [nameErr_form hb] at h; cases h
theorem isName_size {s : ByteArray} (h : isName s = true) : 1 ≤ s.size ∧ s.size ≤ 16 := by
  unfold isName at h
  simp only [Bool.and_eq_true] at h
  have := inB_t.1 h.1.1; omega
theorem Code.Ok.nameSize {c : Code} (h : c.Ok) {i : Nat} (hi : i < c.things) : 1 ≤ (c.names.getD i ByteArray.empty).size ∧ (c.names.getD i ByteArray.empty).size ≤ 16 := isName_size (nameErr_name (h.name i hi))
theorem rowText_len {c : Code} {m : Int} {x : Line} (ho : c.Ok) (hm : m ≤ 12) (hx : LineOk c m x) : (rowText c x).length ≤ 300 := by
  unfold rowText nameAt
  have h1 := digits_len x.no.toNat
  have h2 := digits_len x.sum.toNat
  have h3 := (ho.nameSize (i := x.what.toNat) (by have := hx.what1; have := hx.what2; omega)).2
  have h4 := hx.no2; have h5 := hx.sum2
  simp only [List.length_append, List.length_singleton]
  have : (c.names.getD x.what.toNat ByteArray.empty).data.toList.length = (c.names.getD x.what.toNat ByteArray.empty).size := rfl
  omega
theorem textTo_len {c : Code} {s : Sheet} (ho : c.Ok) (hs : s.Ok c) : ∀ k, k ≤ s.kept.length → (textTo c s k).length ≤ 20 + 300 * k
  | 0, _ => by
    unfold textTo
    have := digits_len s.lines.toNat
    have := hs.l2
    simp; omega
  | k + 1, hk => by
    have hk' : k < s.kept.length := by omega
    have := textTo_len ho hs k (by omega)
    have := rowText_len ho hs.l2 (hs.line _ (List.getElem_mem hk'))
    rw [textTo_succ c s hk', List.length_append]; omega
theorem rises_len : ∀ (l : List Line) (prev : Option Int) (a m : Int), Rises prev l → (∀ x ∈ l, a ≤ x.no ∧ x.no ≤ m) → (∀ y, prev = some y → a ≤ y + 1) → (l.length : Int) ≤ m + 1 - a ∨ l = []
  | [], _, _, _, _, _, _ => .inr rfl
  | x :: l, prev, a, m, h, hb, hp => by
    left
    obtain ⟨h1, h2⟩ := h
    have hx := hb x (by simp)
    rcases rises_len l (some x.no) (x.no + 1) m h2 (fun y hy => ⟨by have := rises_lt h2 y hy _ rfl; omega, (hb y (by simp [hy])).2⟩) (fun y e => by injection e with e; omega) with h3 | h3
    · simp; omega
    · subst h3; simp; omega
theorem Sheet.Ok.keptLen {c : Code} {s : Sheet} (hs : s.Ok c) : s.kept.length ≤ 12 := by
  have h1 := hs.l1; have h2 := hs.l2
  rcases rises_len s.kept none 1 s.lines hs.rises (fun x hx => ⟨(hs.line x hx).no1, (hs.line x hx).no2⟩) (fun y e => by cases e) with h | h
  · omega
  · rw [h]; simp
end Go.Bp
end
section
/- Strings: joined, made of one byte. -/
set_option maxRecDepth 100000
namespace Go.Bp
open Go.RowKit Go.Proofs
section
variable {P : Program} {ops : Array Oper} {Q : Exit → Act → World → Prop} {a : Act} {w : World} {rest : List Oper}
variable {d : Option Tmp} {ty ty' : TypeId} {pos : String} {after : Array Edge}
theorem run_cat {S : World → Prop} {x y : Operand} {p q r : ByteArray} (hx : a.eval x = .string p) (hy : a.eval y = .string q) (hr : p ++ q = r) (hs : p.size + q.size ≤ 1000000000) :
    ∀ w, S w → (execOp a.eval (⟨d, .binOp .add 9 x y ty', ty, pos, after, none⟩ : Oper)).run P w = .ok (.value (.string r)) w := by
  intro w _
  have h := run_string_add_sum (P := P) w p q (by omega)
  rw [hr] at h
  simp [execOp, hx, hy, binOp, h, Result.andThen, eqGuard]
theorem q_cat {x y : Operand} {p q r : ByteArray} (hx : a.eval x = .string p) (hy : a.eval y = .string q) (hr : p ++ q = r) (hs : p.size + q.size ≤ 1000000000)
    (k : wpList P ops Q rest (a.put d (.string r)) w) : wpList P ops Q (⟨d, .binOp .add 9 x y ty', ty, pos, after, none⟩ :: rest) a w :=
  q_val rfl (run_cat (S := fun _ => True) hx hy hr hs w trivial) k
end
section
variable {ops : Array Oper} {Q : Exit → Act → World → Prop} {a : Act} {w : World} {rest : List Oper}
variable {d : Option Tmp} {ty : TypeId} {pos : String} {after : Array Edge}
theorem ti5 : (Tryz.prog.info? 5).map (fun i => (i.zero, i.size, i.bytes)) = some (some (.int .u8 0), 1, 1) := by kernel_rfl
theorem q_bsB {x : Operand} {n : Int} (hx : a.eval x = .int .u8 n)
    (k : ∀ W g, Ext w W → Blk W g 5 #[.int .u8 n] → w.heap.size ≤ g → wpList Tryz.prog ops Q rest (a.put d (.slice (some ⟨g, 0, none⟩) 1 1)) W) :
    wpList Tryz.prog ops Q (⟨d, .buildSlice 58 1 #[(0, x)], ty, pos, after, none⟩ :: rest) a w :=
  q_bs1 Tryz.underlying58 ti5 rfl (by rw [hx]; rfl) (by rw [hx]; exact k)
theorem q_b2s {x : Operand} {g : Nat} {b : UInt8} (hx : a.eval x = .slice (some ⟨g, 0, none⟩) 1 1) (hb : Blk w g 5 #[.int .u8 (b.toNat : Int)])
    (k : wpList Tryz.prog ops Q rest (a.put d (.string (Bp.S [b]))) w) :
    wpList Tryz.prog ops Q (⟨d, .convert 58 9 x, ty, pos, after, none⟩ :: rest) a w := by
  refine q_val rfl ?_ k
  have h := run_convert_bytes_back (P := Tryz.prog) w 58 9 5 ⟨g, 0, none⟩ 1 [b] Tryz.underlying58 Tryz.underlying5 Tryz.underlying9 (fun j hj => by
    have : j = 0 := by simpa using hj
    subst this
    have := hb.cell 0
    simpa [Addr.add] using this)
  simp only [List.length_singleton] at h
  simp [execOp, hx, h, Result.andThen]
  rfl
end
end Go.Bp
end
section
set_option maxRecDepth 100000
set_option linter.unusedSimpArgs false
set_option linter.unusedVariables false
namespace Go.Bp
open Go.RowKit Go.Proofs
end Go.Bp
namespace Go.Bp
open Go.RowKit Go.Proofs
end Go.Bp
end
section
/- Plain Lean: reading texts. -/
namespace Go.Bp
open Go.RowKit
def writeAns (c : Code) (s : Sheet) : List UInt8 × Int := if s.asked c ≠ 0 then ([], s.asked c) else (textOf c s, 0)
/-- The parts of the first i bytes of a string that are closed, and where the next one begins. -/
def splTo (s : ByteArray) (b : UInt8) : Nat → List ByteArray × Nat
  | 0 => ([], 0)
  | i + 1 => if s.data.toList.getD i 0 = b then ((splTo s b i).1 ++ [s.extract (splTo s b i).2 i], i + 1) else splTo s b i
def split (s : ByteArray) (b : UInt8) : List ByteArray := (splTo s b s.size).1 ++ [s.extract (splTo s b s.size).2 s.size]
def isDig (b : UInt8) : Bool := inB b.toNat 48 57
def numTo (s : ByteArray) (k : Nat) : Int := (s.data.toList.take k).foldl (fun n b => 10 * n + ((b.toNat : Int) - 48)) 0
def numOf (s : ByteArray) : Int := if inB s.size 1 3 = true ∧ s.data.toList.all isDig = true then numTo s s.size else -1
/-- What and Sum of a line, as the first k names say. -/
def findTo (names w : List ByteArray) : Nat → Int × Int
  | 0 => (-1, 0)
  | k + 1 => if names.getD k ByteArray.empty = w.getD 1 ByteArray.empty then ((k : Int), numOf (w.getD 2 ByteArray.empty)) else findTo names w k
def lineOf (c : Code) (row : ByteArray) : Line :=
  let w := split row 32
  let f := if w.length = 3 then findTo c.names w c.names.length else (-1, 0)
  ⟨numOf (w.getD 0 ByteArray.empty), f.1, f.2⟩
def rowsOf (c : Code) (rows : List ByteArray) (k : Nat) : List Line := ((rows.drop 1).take k).map (lineOf c)
def parsedOf (c : Code) (text : ByteArray) : Sheet := ⟨numOf ((split text 10).getD 0 ByteArray.empty), rowsOf c (split text 10) ((split text 10).length - 2)⟩
def readErr (c : Code) (text : ByteArray) : Int := if c.check.2.2 ≠ 0 then c.check.2.2 else if text.size ≤ 600 then 0 else 3
def readAns (c : Code) (text : ByteArray) : Sheet × Int :=
  if readErr c text ≠ 0 then (⟨0, []⟩, readErr c text) else if (parsedOf c text).err c = 0 ∧ S (textOf c (parsedOf c text)) = text then (parsedOf c text, 0) else (⟨0, []⟩, 6)
end Go.Bp
namespace Go.Bp
theorem findTo_hit {names w : List ByteArray} {k : Nat} (h : names.getD k ByteArray.empty = w.getD 1 ByteArray.empty) : findTo names w (k + 1) = ((k : Int), numOf (w.getD 2 ByteArray.empty)) := by rw [findTo, if_pos h]
theorem findTo_miss {names w : List ByteArray} {k : Nat} (h : names.getD k ByteArray.empty ≠ w.getD 1 ByteArray.empty) : findTo names w (k + 1) = findTo names w k := by rw [findTo, if_neg h]
theorem lineOf_3 {c : Code} {row : ByteArray} (h : (split row 32).length = 3) : lineOf c row = ⟨numOf ((split row 32).getD 0 ByteArray.empty), (findTo c.names (split row 32) c.names.length).1, (findTo c.names (split row 32) c.names.length).2⟩ := by unfold lineOf; simp [h]
end Go.Bp
end
section
set_option maxRecDepth 100000
set_option linter.unusedSimpArgs false
set_option linter.unusedVariables false
namespace Go.Bp
open Go.RowKit Go.Proofs
/-- A string and a number. -/
def RetTI (w : World) (t : List UInt8) (b : Int) (e : Ending) (w' : World) : Prop := e = .returned (.tuple #[.string (S t), .int .i64 b]) ∧ Ext w w'
end Go.Bp
end
section
set_option maxRecDepth 100000
set_option linter.unusedSimpArgs false
set_option linter.unusedVariables false
namespace Go.Bp
open Go.RowKit Go.Proofs
end Go.Bp
end
section
set_option maxRecDepth 100000
set_option linter.unusedSimpArgs false
set_option linter.unusedVariables false
namespace Go.Bp
open Go.RowKit Go.Proofs
end Go.Bp
end
section
set_option maxRecDepth 100000
set_option linter.unusedSimpArgs false
set_option linter.unusedVariables false
namespace Go.Bp
open Go.RowKit Go.Proofs
end Go.Bp
end
section
/- A range over a function whose iterator keeps state of its own in cells: the law for the caller, at the wide fence. No program stands in it. -/
set_option maxRecDepth 100000
namespace Go.Bp
open Go.RowKit
/-- The blocks from B on lie as they lay. -/
structure Up (B : Nat) (W W' : World) : Prop where
  size : W.heap.size ≤ W'.heap.size
  block : ∀ k, B ≤ k → k < W.heap.size → W'.heap[k]? = W.heap[k]?
theorem Up.refl (B : Nat) (W : World) : Up B W W := ⟨Nat.le_refl _, fun _ _ _ => rfl⟩
theorem Up.trans {B : Nat} {X Y Z : World} (h : Up B X Y) (k : Up B Y Z) : Up B X Z := ⟨Nat.le_trans h.size k.size, fun i hB hi => (k.block i hB (by have := h.size; omega)).trans (h.block i hB hi)⟩
theorem Up.mono {B C : Nat} {X Y : World} (h : Up B X Y) (hB : B ≤ C) : Up C X Y := ⟨h.size, fun i hi hl => h.block i (by omega) hl⟩
theorem Up.ofExt {B : Nat} {X Y : World} (h : Ext X Y) : Up B X Y := ⟨h.size, fun i _ hi => h.block i hi⟩
theorem Up.grown {B : Nat} {X Y : World} {row : Option Nat} (hg : X.grownBy Y row) (hr : ∀ g, row = some g → g < B) : Up B X Y :=
  ⟨hg.size, fun k hB hk => hg.block k hk (fun e => by have := hr k e.symm; omega)⟩
theorem Up.putObj {B : Nat} (W : World) (l : Nat) (o : Obj) (hl : l < B) : Up B W (W.putObj l o) := ⟨by simp, fun k hk _ => World.putObj_heap_other (by omega)⟩
theorem grown_of_ext {A B : World} (h : Ext A B) : A.grownBy B none := ⟨h.os, h.tape, h.output, h.size, fun k hk _ => h.block k hk⟩

/-- The contract of an iterator value: it hands out values x of which Giv tells, in order; it writes into blocks of its own alone (from the heap's size on at which it began); what it reads is told by Dt. -/
def SeqC {α : Type} (P : Program) (g : Nat) (lb : Array Value) (encs : α → Array Value) (Giv : α → World → Prop) (Dt : World → Prop) (S Sp : List α → Prop) (N : Nat) : Prop :=
  ∀ (l : Nat) (J Jx : List α → World → Prop) (W : World), (∀ s A B, J s A → Below W.heap.size A B → J s B) → (∀ s A B, Jx s A → Ext A B → Jx s B) → (∀ s A, J s A → Dt A) →
    (∀ pre x W1, J pre W1 → Giv x W1 → pre.length < N → W.heap.size ≤ W1.heap.size → YieldAt Fence.wide 0 P l (encs x) W1 fun e W' =>
      (e = .returned (.bool true) ∧ J (pre ++ [x]) W' ∧ Up W.heap.size W1 W') ∨ (e = .returned (.bool false) ∧ Jx (pre ++ [x]) W')) →
    J [] W →
    Calls P g (#[.func (.yield l) #[] #[]] ++ lb) W fun e W' => (∃ v, e = .returned v) ∧ ((∃ xs, S xs ∧ J xs W') ∨ (∃ pre, Sp pre ∧ Jx pre W'))

/-- How the body of a round may be left. -/
def postC {α : Type} (B : Nat) (I : List α → World → Prop) (Ix : Go.Code → List α → World → Prop) (xs : List α) (W : World) : Exit → Act → World → Prop
  | .normal, _, W' => Up B W W' ∧ I xs W'
  | .ret, _, W' => Up B W W' ∧ Ix .ret xs W'
  | .exit id, _, W' => Up B W W' ∧ Ix (.exit id) xs W'
  | .goto t, _, W' => Up B W W' ∧ Ix (.goto t) xs W'
  | .panic _, _, _ => False
  | .outgrown, _, _ => False

theorem wp_rangeFuncC {P : Program} {α : Type} {g : Operand} {ps : Array Tmp} {assign body : Go.Code} {Q : Exit → Act → World → Prop} {a : Act} {w : World}
    {gf : Nat} {lb : Array Value} (hg : a.eval g = .func (.func gf) #[] lb) (eg : ∀ args w, (callFunc gf args).run P w = .ok (.enter gf args) w)
    {encs : α → Array Value} {Giv : α → World → Prop} {Dt : World → Prop} {S Sp : List α → Prop} {N : Nat} (hseq : SeqC P gf lb encs Giv Dt S Sp N) (hps : ∀ x, (encs x).size = ps.size)
    (hGv : OwnFrom 0 Giv)
    (I : List α → World → Prop) (Ix : Go.Code → List α → World → Prop) (hI : ∀ s A B, I s A → Below w.heap.size A B → I s B) (hIx : ∀ c, OwnFrom w.heap.size (Ix c)) (hDt : ∀ s A, I s A → Dt A) (h0 : I [] w) (a₁ : α → Act)
    (hassign : ∀ (l : Nat) (x : α) (W : World) (K : Act → World → Prop), K (a₁ x) W →
      assign.wpIn (Fence.wide.inRound l) 0 P (Exit.then K (fun _ _ _ => False)) { tmps := (ps.zip (encs x)).foldl (fun t (p, v) => t.setIfInBounds p v) a.tmps, defers := [] } W)
    (hbody : ∀ (l : Nat) (pre : List α) (x : α) (W : World), I pre W → Giv x W → pre.length < N → w.heap.size < W.heap.size → body.wpIn (Fence.wide.inRound l) 0 P (postC w.heap.size I Ix (pre ++ [x]) W) (a₁ x) W)
    (hdone : ∀ (D : Nat) (xs : List α) (W : World), w.heap.size ≤ D → S xs → I xs W → W.heap[D]? = some (.deferred (some [])) → Q .normal { a with defers := { target := .collected D, args := #[] } :: a.defers } W)
    (hstop : ∀ (D : Nat) (c : Go.Code) (pre : List α) (W : World), w.heap.size ≤ D → Sp pre → Ix c pre W → W.heap[D]? = some (.deferred (some [])) → c.wp P Q { a with defers := { target := .collected D, args := #[] } :: a.defers } W) :
    (Go.Code.rangeFunc g ps assign body).wp P Q a w := by
  refine wpIn_wide (n := 0).1 (wpIn_rangeFunc ?_)
  intro fn hfn
  rw [show Fence.wide.round = none from rfl]
  obtain ⟨rec, hrec⟩ : ∃ rec : LoopState → Option Go.Code → Loop, rec = fun st pe => { state := st, pending := pe, fn, tmps := a.tmps, params := ps, assign, body, defers := w.heap.size } := ⟨_, rfl⟩
  obtain ⟨W1, hW1⟩ : ∃ W1, (w.alloc (.deferred (some []))).alloc (.loop (rec .ready none)) = W1 := ⟨_, rfl⟩
  have hs1 : W1.heap.size = w.heap.size + 2 := by rw [← hW1]; simp
  have hL1 : W1.heap[w.heap.size + 1]? = some (.loop (rec .ready none)) := by
    rw [← hW1]; have := World.alloc_heap_new (w.alloc (.deferred (some []))) (.loop (rec .ready none)); rwa [World.size_alloc] at this
  have hK1 : W1.heap[w.heap.size]? = some (.deferred (some [])) := by
    rw [← hW1]; exact (Below.heap_alloc _ _ _ (by simp)).trans (World.alloc_heap_new w _)
  have hb1 : Below w.heap.size w W1 := by
    rw [← hW1]; exact (((Below.refl _ w).alloc (Nat.le_refl _) _).alloc (by simp) _)
  have hI1 : I [] W1 := hI _ _ _ h0 hb1
  have hIp : ∀ s (A : World) l o, I s A → w.heap.size ≤ l → I s (A.putObj l o) := fun s A l o hs hl =>
    hI s A _ hs ⟨rfl, rfl, rfl, by simp, fun k hk => World.putObj_heap_other (by omega)⟩
  refine ⟨w.heap.size + 1, [{ target := .collected w.heap.size, args := #[] }], W1, { target := .fn (.func gf) lb, args := #[.func (.yield (w.heap.size + 1)) #[] #[]] }, W1, gf,
    #[.func (.yield (w.heap.size + 1)) #[] #[]] ++ lb, W1, ?_, ?_, ?_, ?_, fun h => by simp [Fence.wide] at h, ?_⟩
  · rw [← hW1, hrec]; exact run_enterLoop_outer _ _ _ _ _
  · simp only [resolve, hg]
    simp [go_sem]
  · intro f' hf'; trivial
  · simp [invoke, go_sem, eg]
  · refine callsIn_wide.2 (Calls.mono (hseq (w.heap.size + 1)
      (fun pre W => I pre W ∧ W.heap[w.heap.size + 1]? = some (.loop (rec .ready none)) ∧ W.heap[w.heap.size]? = some (.deferred (some [])))
      (fun pre W => ∃ c, Ix c pre W ∧ W.heap[w.heap.size + 1]? = some (.loop (rec .done (some c))) ∧ W.heap[w.heap.size]? = some (.deferred (some [])))
      W1 ?_ ?_ (fun s A hs => hDt s A hs.1) ?_ ⟨hI1, hL1, hK1⟩) ?_)
    · rintro s A B ⟨h1, h2, h3⟩ hb
      exact ⟨hI s A B h1 (hb.mono (by omega)), (hb.block _ (by omega)).trans h2, (hb.block _ (by omega)).trans h3⟩
    · rintro s A B ⟨c, h1, h2, h3⟩ hb
      exact ⟨c, hIx c s A B none h1 (grown_of_ext hb) (fun r e => by cases e), hb.heap_some h2, hb.heap_some h3⟩
    · -- one round
      rintro pre x W ⟨hi, hl, hk⟩ hgv hlen hsz
      have hlt : w.heap.size + 1 < W.heap.size := (Array.getElem?_eq_some_iff.1 hl).1
      have hy := run_yield (P := P) (args := encs x) hl (by rw [hrec]; exact hps x)
      rw [hrec] at hy
      refine ⟨fn, _, assign, body, hy, roundIn_of_wpIn hfn (hassign _ x W _ ⟨_, run_beginRound hl (by rw [hrec]), ?_⟩)⟩
      have hl2 : (W.putObj (w.heap.size + 1) (.loop { rec .ready none with state := .busy })).heap[w.heap.size + 1]? = some (.loop { rec .ready none with state := .busy }) := World.putObj_heap_same hlt
      have hk2 : (W.putObj (w.heap.size + 1) (.loop { rec .ready none with state := .busy })).heap[w.heap.size]? = some (.deferred (some [])) := (World.putObj_heap_other (by omega)).trans hk
      have hw2 : Up W1.heap.size W (W.putObj (w.heap.size + 1) (.loop { rec .ready none with state := .busy })) := Up.putObj _ _ _ (by omega)
      have hgv2 := hGv x W _ (some (w.heap.size + 1)) hgv (grownBy_putObj' W (w.heap.size + 1) (.loop { rec .ready none with state := .busy })) (fun r e => by cases e; exact ⟨Nat.zero_le _, _, hl, rfl⟩)
      refine wpIn_mono (hbody _ pre x _ (hIp _ _ _ _ hi (by omega)) hgv2 hlen (by simp; omega)) ?_
      have fin : ∀ (jump : Option Go.Code) (W3 : World), Up w.heap.size (W.putObj (w.heap.size + 1) (.loop { rec .ready none with state := .busy })) W3 →
          (Instr.endRound (w.heap.size + 1) jump).run P W3 = .ok (.bool jump.isNone) (W3.putObj (w.heap.size + 1) (.loop (rec (if jump.isNone then .ready else .done) jump))) ∧
          W3.heap[w.heap.size + 1]? = some (.loop { rec .ready none with state := .busy }) ∧
          (W3.putObj (w.heap.size + 1) (.loop (rec (if jump.isNone then .ready else .done) jump))).heap[w.heap.size + 1]? = some (.loop (rec (if jump.isNone then .ready else .done) jump)) ∧
          (W3.putObj (w.heap.size + 1) (.loop (rec (if jump.isNone then .ready else .done) jump))).heap[w.heap.size]? = some (.deferred (some [])) := fun jump W3 hk3 => by
        have hl3 := (hk3.block _ (by omega) (by simp; omega)).trans hl2
        have := run_endRound (P := P) jump hl3
        rw [hrec] at this ⊢
        exact ⟨this, by rw [hrec] at hl3; exact hl3, World.putObj_heap_same (Array.getElem?_eq_some_iff.1 hl3).1, (World.putObj_heap_other (by omega)).trans ((hk3.block _ (Nat.le_refl _) (by simp; omega)).trans hk2)⟩
      rintro e a3 W3 hp
      cases e with
      | normal =>
        obtain ⟨hk3, hi3⟩ := hp
        obtain ⟨hr, hl3, hl4, hk4⟩ := fin none W3 hk3
        exact ⟨_, _, hr, .inl ⟨rfl, ⟨hIp _ _ _ _ hi3 (by omega), hl4, hk4⟩, (hw2.trans (hk3.mono (by omega))).trans (Up.putObj _ _ _ (by omega))⟩⟩
      | ret =>
        obtain ⟨hk3, hi3⟩ := hp
        obtain ⟨hr, hl3, hl4, hk4⟩ := fin (some .ret) W3 hk3
        exact ⟨_, _, hr, .inr ⟨rfl, .ret, (hIx _).putObj _ hi3 (by omega) hl3 rfl, hl4, hk4⟩⟩
      | exit id =>
        obtain ⟨hk3, hi3⟩ := hp
        obtain ⟨hr, hl3, hl4, hk4⟩ := fin (some (.exit id)) W3 hk3
        exact ⟨_, _, hr, .inr ⟨rfl, .exit id, (hIx _).putObj _ hi3 (by omega) hl3 rfl, hl4, hk4⟩⟩
      | goto t =>
        obtain ⟨hk3, hi3⟩ := hp
        obtain ⟨hr, hl3, hl4, hk4⟩ := fin (some (.goto t)) W3 hk3
        exact ⟨_, _, hr, .inr ⟨rfl, .goto t, (hIx _).putObj _ hi3 (by omega) hl3 rfl, hl4, hk4⟩⟩
      | panic ch => exact hp.elim
      | outgrown => exact hp.elim
    · -- behind the iterator
      rintro e W2 ⟨⟨v, rfl⟩, (⟨xs, hS, hi, hl, hk⟩ | ⟨pre, hSp, c, hi, hl, hk⟩)⟩
      · exact ⟨none, _, by have := run_endLoop (P := P) hl (by rw [hrec]; simp); rw [hrec] at this; exact this, hdone _ xs _ (Nat.le_refl _) hS (hIp _ _ _ _ hi (by omega)) ((World.putObj_heap_other (by omega)).trans hk)⟩
      · exact ⟨some c, _, by have := run_endLoop (P := P) hl (by rw [hrec]; simp); rw [hrec] at this; exact this, wpIn_wide.2 (hstop _ c pre _ (Nat.le_refl _) hSp ((hIx c).putObj _ hi (by omega) hl rfl) ((World.putObj_heap_other (by omega)).trans hk))⟩

section
variable {P : Program} {ops : Array Oper} {Q : Exit → Act → World → Prop} {n : Nat}
/-- In a round whatever is no defer statement is carried out as anywhere. -/
theorem operIn_of_wp {o : Oper} {a : Act} {w : World} {l : Nat} {next next' : Act → World → Prop} (hd : ∀ c, o.op ≠ .defer c) (hn : ∀ a w, next a w → next' a w) (h : o.wp P a w next Q) : o.wpIn (Fence.wide.inRound l) n P a w next' Q := by
  refine ⟨fun _ _ => trivial, ?_⟩
  have e : o.semAt (Fence.wide.inRound l).round a.eval = execOp a.eval o := Oper.semAt_eq _ _ _ hd
  rw [e]
  unfold Oper.wp at h
  cases hr : (execOp a.eval o).run P w with
  | ok x w' =>
    rw [hr] at h
    cases x with
    | value v => exact hn _ _ h
    | skip => exact hn _ _ h
    | defer d => exact hn _ _ h
    | enter f args =>
      refine ⟨fun h => by simp [Fence.wide, Fence.inRound] at h, ?_⟩
      refine CallsIn.inRound l (callsIn_wide.2 (Calls.mono h fun e w'' he => ?_))
      cases e with
      | returned v => exact hn _ _ he
      | panicked c => exact he
      | outgrown => exact he
    | row r args =>
      refine ⟨fun h => by simp [Fence.wide, Fence.inRound] at h, fun c cs _ => ?_⟩
      obtain ⟨v, w2, h1, h2⟩ := h c cs
      exact ⟨v, w2, hn _ _ h1, stepsIn_wide.2 h2⟩
    | _ => exact h.elim
  | halt x w' =>
    rw [hr] at h
    cases x with
    | panic v => exact h
    | _ => exact h.elim
/-- What follows a list of operations. -/
def thenIn (l n : Nat) (P : Program) (ops : Array Oper) (Q : Exit → Act → World → Prop) (r : List Oper) : Exit → Act → World → Prop
  | .normal, a, w => wpListIn (Fence.wide.inRound l) n P ops Q r a w
  | e, a, w => Q e a w
theorem upon_thenIn {o : Oper} {a : Act} {next : Act → World → Prop} {l : Nat} {r : List Oper} {x : Result Next} (h : o.upon P a next (thenIn l n P ops Q r) x) : o.upon P a next Q x := by
  cases x with
  | ok k w' =>
    cases k with
    | enter f args => exact Calls.mono h fun e w'' he => by cases e <;> exact he
    | _ => exact h
  | halt x w' => cases x <;> exact h
/-- One operation of a round's list, by a law on lists. -/
theorem in_list {o : Oper} {rest : List Oper} {a : Act} {w : World} {l : Nat} (hg : o.guard = none) (hd : ∀ c, o.op ≠ .defer c) (hQ : ¬ LetsOut Q) (h : wpList P ops (thenIn l n P ops Q rest) [o] a w) : wpListIn (Fence.wide.inRound l) n P ops Q (o :: rest) a w := by
  unfold wpListIn
  unfold wpList at h
  simp only [Region.wanted, hg, if_true] at h ⊢
  rcases h with h | ⟨_, a2, w2, h2⟩
  · exact operIn_of_wp hd (fun _ _ hk => hk) (upon_thenIn (l := l) (n := n) (r := rest) h)
  · exact absurd ⟨a2, w2, h2⟩ hQ
end
end Go.Bp
end
section
set_option maxRecDepth 100000
set_option linter.unusedSimpArgs false
set_option linter.unusedVariables false
namespace Go.Bp
open Go.RowKit Go.Proofs
theorem pout_any (n lo hi : Int) (w : World) : Calls Tryz.prog 52 #[.int .i64 n, .int .i64 lo, .int .i64 hi] w fun e w' => e = .returned (.bool (!inB n lo hi)) ∧ w = w' := by
  unfold inB
  go_enter Tryz.func52, Tryz.ntmps52
  go_wp2
  all_goals (go_ret; exact ⟨ret_b (by rw [Bool.eq_iff_iff]; simp; try omega), rfl⟩)
set_option maxHeartbeats 1000000 in
theorem PNames_any (cv : Value) (c : Code) (w : World) (h : CodeV w cv c) (hb : c.faults.length ≤ 1000000 ∧ c.man.length ≤ 1000000) :
    Calls Tryz.prog 53 #[cv] w (Ret w fun v w' => OwnS w.heap.size w' v c.names) := by
  obtain ⟨fv, mv, rfl, ⟨A, cp, rfl, h1, h2, h3, h4⟩, hM, hW⟩ := h
  obtain ⟨hb1, hb2⟩ := hb
  unfold maxLen at h2
  clear h3
  have hE := Ext.refl w
  go_enter Tryz.func53, Tryz.ntmps53
  go_wp2_with (first | ((with_reducible refine q_box (d := some 1) ?_); intro W1 g1 hE1 hB1 hg1; simp [Act.eval, Act.put, Value.cells] at hB1; (try replace hE := hE.trans hE1); (try replace hM := hM.ext hE1); (try replace hB1 := hB1.ext hE1); (try replace hb1_0 := Ext.cell_some hE1 hb1_0); (try replace hb1_1 := Ext.cell_some hE1 hb1_1); (try replace hb1_2 := Ext.cell_some hE1 hb1_2); have hb1_0 := hB1.cell 0; have hb1_1 := hB1.cell 1; have hb1_2 := hB1.cell 2; simp at hb1_0 hb1_1 hb1_2; clear hE1))
  have hB0 := hE.size
  have k0 := hb1_0; have k1 := hb1_1; have kM := hM
  go_loopw [2, 8] (fun v i wr => Ext W1 wr ∧ ∃ k : Nat, k ≤ c.faults.length ∧ i = .int .i64 k ∧ OwnS W1.heap.size wr v (fnames (c.faults.take k))) (fun _ i _ => c.faults.length - (intOf i).toNat)
  case atStart => exact ⟨Ext.refl _, 0, by omega, rfl, OwnS.nil _ _⟩
  case round =>
    obtain ⟨hEr, k, hk, rfl, hO⟩ := hrel
    replace k0 := Ext.cell_some hEr k0
    replace k1 := Ext.cell_some hEr k1
    replace kM := kM.ext hEr
    clear hb1_0 hb1_1 hb1_2 hB1 hM
    have hlen := fnames_len c.faults k hk
    by_cases hlt : k < c.faults.length
    · obtain ⟨ad, rfl, hc⟩ := h4 (by omega)
      have eS := ld_f ((hc.ext hE).ext hEr) hlt
      have hn := fnames_snoc c.faults hlt
      have Hn := Lib.hid hn
      have Hl := Lib.hid hlen
      clear h4 hc hn hlen
      go_wp2_with (first | ((with_reducible refine q_load (d := some 11) (hl := eS) ?_ ?_); rfl) | ((with_reducible refine q_newvar (e := 74) (u := 4) (v := .agg #[.string c.faults[k].name, .int .i64 c.faults[k].points, .int .i64 c.faults[k].limit]) ti74 ?_ ?_ ?_ ?_ ?_ ?_); (intro g; rfl); (intro g; rfl); rfl; rfl; (simp [Value.cells, Value.oneCell']); intro W4 g4 hE4 hB4 hg4; simp [Value.cells] at hB4; have b4 := hB4.cell 0; simp at b4; replace hEr := hEr.trans hE4; replace hO := hO.ext hE4) | ((with_reducible refine q_bsS (d := some 15) (n := c.faults[k].name) ?_ ?_); rfl; intro W19 g19 hE19 hB19 hg19; replace hEr := hEr.trans hE19; replace hO := hO.ext hE19) | ((with_reducible refine q_appS (d := some 16) ?_ hO ?_ hB19 ?_ ?_ ?_); rfl; rfl; (rw [Hl.out]; omega); (have := hEr.size; omega); intro v' W20 hO' hmono hgr; replace hEr := hmono _ hEr))
      go_roundw
      case rel => exact ⟨hEr, k + 1, by omega, by go_num, by rw [Hn.out]; exact hO'⟩
      case measure => simp [intOf]; omega
    · obtain rfl : k = c.faults.length := by omega
      have Hl := Lib.hid hlen
      clear hlen h4
      go_wp2_with ((with_reducible refine q_appSS (d := some 21) ?_ hO ?_ kM ?_ ?_ ?_); rfl; rfl; (rw [Hl.out]; omega); (have := hEr.size; omega); intro v' W20 hO' hmono hgr; replace hEr := hmono _ hEr)
      go_ret
      refine ⟨_, rfl, ?_, hE.trans hEr⟩
      have := hO'.base hB0
      rwa [List.take_length] at this
/-- What a byte at place k of a name must be. -/
def chAt (k : Nat) (b : UInt8) : Bool := if k = 0 then inB b.toNat 97 122 else nameCh b
theorem isName_bad {s : ByteArray} {k : Nat} (hk : k < s.size) (h : chAt k s[k] = false) : isName s = false := by
  unfold chAt at h
  split at h
  · rename_i h0; subst h0; exact isName_hd hk h
  · exact isName_ch hk h
theorem isName_good {s : ByteArray} (h1 : inB s.size 1 16 = true) (h : ∀ k (hk : k < s.size), chAt k s[k] = true) : isName s = true := by
  have h0 : 0 < s.size := by have := inB_t.1 h1; omega
  refine isName_yes h1 h0 (by simpa [chAt] using h 0 h0) fun k hk => ?_
  by_cases e : k = 0
  · subst e; have := h 0 h0; simp only [chAt, if_true] at this; simp [nameCh, this]
  · have := h k hk; simpa [chAt, e] using this
theorem ext_iter (w : World) (s : ByteArray) (k : Nat) : Ext w (w.iter s k) := Ext.ofAlloc _ _
set_option maxHeartbeats 2000000 in
theorem PName_any (s : ByteArray) (w : World) (hs : s.size ≤ maxLen) : Calls Tryz.prog 54 #[.string s] w fun e w' => e = .returned (.bool (isName s)) ∧ Ext w w' := by
  unfold maxLen at hs
  go_enter Tryz.func54, Tryz.ntmps54
  go_wp2
  go_loopw [3] (fun i wr => ∃ k : Nat, k ≤ s.size ∧ wr = w.iter s k ∧ ∀ j (hj : j < s.size), j < k → chAt j s[j] = true) (fun _ wr => s.size - wr.iterPos w.heap.size)
  case atStart => exact ⟨0, by omega, rfl, by omega⟩
  case round =>
    obtain ⟨k, hk, rfl, hn⟩ := hrel
    have Hn := Lib.hid hn
    clear hn
    by_cases hlt : k < s.size
    · by_cases hc : chAt k s[k] = true
      · have ha : s[k].toNat < 128 := by
          unfold chAt at hc
          split at hc
          · have := inB_t.1 hc; omega
          · unfold nameCh at hc
            rw [Bool.or_eq_true] at hc
            rcases hc with hc | hc <;> (have := inB_t.1 hc; omega)
        have hx := run_next_ascii (P := Tryz.prog) w s k 0 hlt ha
        obtain ⟨r, hr⟩ : ∃ r : Nat, s[k].toNat = r := ⟨_, rfl⟩
        have Hc := Lib.hid hc
        rw [hr] at hx ha
        have key : (97 ≤ r ∧ r ≤ 122) ∨ (k ≠ 0 ∧ 48 ≤ r ∧ r ≤ 57) := by
          unfold chAt at hc
          split at hc
          · have := inB_t.1 hc; omega
          · rename_i hk0
            unfold nameCh at hc
            rw [Bool.or_eq_true] at hc
            rcases hc with hc | hc
            · have := inB_t.1 hc; omega
            · have := inB_t.1 hc; exact .inr ⟨hk0, by omega⟩
        clear hr hc
        rcases key with ⟨c1, c2⟩ | ⟨c0, c1, c2⟩
        · have d1 : ¬ ((r : Int) < 97) := by omega
          have d2 : ¬ ((122 : Int) < r) := by omega
          go_wp2
          go_roundw
          case rel => exact ⟨k + 1, by omega, rfl, fun j hj hjk => by by_cases e : j = k; · subst e; exact Hc.out
                                                                      · exact Hn.out j hj (by omega)⟩
          case measure => simp; omega
        · have d0 : ((k : Int) == 0) = false := by simp; omega
          have d1 : (r : Int) < 97 := by omega
          have d2 : ¬ ((r : Int) < 48) := by omega
          have d3 : ¬ ((57 : Int) < r) := by omega
          go_wp2
          go_roundw
          case rel => exact ⟨k + 1, by omega, rfl, fun j hj hjk => by by_cases e : j = k; · subst e; exact Hc.out
                                                                      · exact Hn.out j hj (by omega)⟩
          case measure => simp; omega
      · simp only [Bool.not_eq_true] at hc
        have Hf := Lib.hid (isName_bad hlt hc)
        have hx := run_next_any (P := Tryz.prog) w s k 0 hlt
        have key : ((Utf8.decode s k).1 < 97 ∨ 122 < (Utf8.decode s k).1) ∧ (k = 0 ∨ (Utf8.decode s k).1 < 48 ∨ 57 < (Utf8.decode s k).1) := by
          by_cases ha : s[k].toNat < 128
          · rw [decode_ascii s k hlt ha]
            unfold chAt at hc
            split at hc
            · rename_i h0; have := inB_f.1 hc; exact ⟨by omega, .inl h0⟩
            · unfold nameCh at hc
              rw [Bool.or_eq_false_iff] at hc
              have h1 := inB_f.1 hc.1; have h2 := inB_f.1 hc.2
              exact ⟨by omega, by omega⟩
          · have := (decode_high s k hlt (by omega)).1
            exact ⟨by omega, by omega⟩
        have hle := decode_le s k
        obtain ⟨r, hr⟩ : ∃ r, (Utf8.decode s k).1 = r := ⟨_, rfl⟩
        obtain ⟨dd, hd⟩ : ∃ d, (Utf8.decode s k).2 = d := ⟨_, rfl⟩
        rw [hr] at hx key hle
        rw [hd] at hx
        clear hr hd hc
        obtain ⟨k1, k2⟩ := key
        have fin : ∀ W, W = w.iter s (k + dd) → Ext w W := fun W h => h ▸ ext_iter _ _ _
        by_cases c0 : k = 0
        · have d0 : ((k : Int) == 0) = true := by simp [c0]
          have C0 := Lib.hid c0
          clear c0
          rcases k1 with c1 | c1
          · have d1 : (r : Int) < 97 := by omega
            go_wp2
            go_ret
            exact ⟨ret_b Hf.out.symm, ext_iter _ _ _⟩
          · have d1 : ¬ ((r : Int) < 97) := by omega
            have d2 : (122 : Int) < r := by omega
            go_wp2
            go_ret
            exact ⟨ret_b Hf.out.symm, ext_iter _ _ _⟩
        · have d0 : ((k : Int) == 0) = false := by simp; omega
          rcases k1 with c1 | c1
          · have d1 : (r : Int) < 97 := by omega
            by_cases c2 : r < 48
            · have d2 : (r : Int) < 48 := by omega
              go_wp2
              go_ret
              exact ⟨ret_b Hf.out.symm, ext_iter _ _ _⟩
            · have d2 : ¬ ((r : Int) < 48) := by omega
              have d3 : (57 : Int) < r := by omega
              go_wp2
              go_ret
              exact ⟨ret_b Hf.out.symm, ext_iter _ _ _⟩
          · have d1 : ¬ ((r : Int) < 97) := by omega
            have d2 : (122 : Int) < r := by omega
            have d3 : ¬ ((r : Int) < 48) := by omega
            have d4 : (57 : Int) < r := by omega
            go_wp2
            go_ret
            exact ⟨ret_b Hf.out.symm, ext_iter _ _ _⟩
    · obtain rfl : k = s.size := by omega
      have hx := run_next_end (P := Tryz.prog) w s s.size 0 (by omega)
      have hEi := ext_iter w s s.size
      obtain ⟨Wl, hWl⟩ : ∃ W, W = w.iter s s.size := ⟨_, rfl⟩
      have hr : isName s = inB s.size 1 16 := by
        cases hz : inB s.size 1 16 with
        | true => exact isName_good hz (fun j hj => Hn.out j hj hj)
        | false => exact isName_nil hz
      have Hr := Lib.hid hr
      clear hr
      rw [← hWl] at hEi hx ⊢
      clear hWl
      go_wp2_with (first | ((with_reducible refine q_bsI (d := some 31) (n := (s.size : Int)) ?_ ?_); rfl; intro W31 g31 hE31 hB31 hg31; replace hEi := hEi.trans hE31; have hI := (OwnI.of_blk (B := 0) hB31 (Nat.zero_le _)).ints) | (go_at_call 98; ((with_reducible refine (clsout_any 1 16 _ [(s.size : Int)] _ hI).mono ?_); rintro e Wc ⟨rfl, hEc⟩; replace hEi := hEi.trans hEc)))
      go_ret
      exact ⟨ret_b (by rw [Hr.out]), hEi⟩
end Go.Bp
end
