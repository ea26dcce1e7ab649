/- Texts L2 LB OP OE of the proof, merged: contracts of functions of chapter 10, of the program and of the reference, and plain laws. -/
import Derived.Carry
import Derived.Handed
import Derived.LaidMore
import Derived.Lay
import Derived.Lib.LaidTab
import Derived.OpenShut
import Derived.ProofKit
import Derived.SevenTiedAt
import Derived.Shelf.Vars
import Derived.SliceStrings
import Derived.Stop.LaidErr
import Derived.Test.YthomnkgiaapljaaGreatDoorCards
import Derived.Test.YthomnkgiaapljaaGreatDoorM12
import Derived.Test.YthomnkgiaapljaaGreatDoorTie
section
set_option maxRecDepth 100000
set_option linter.unusedSimpArgs false
set_option linter.unusedVariables false
namespace Go.Bp
open Go.RowKit Go.Proofs
theorem Sheets_ex (av bv : Value) (w : World) (ha : SheetV w av exSheet) (hb : SheetV w bv exSheet) : Calls Tryz.prog 27 #[av, bv] w fun e w' => e = .returned (.bool true) ∧ Ext w w' := by
  have := Sheets_any av bv exSheet exSheet w ha hb; rwa [ex_sheets] at this
theorem Ints_ex (av bv : Value) (xs : List Int) (w : World) (ha : Ints w av xs) (hb : Ints w bv xs) : Calls Tryz.prog 23 #[av, bv] w fun e w' => e = .returned (.bool true) ∧ Ext w w' := by
  have := Ints_any av bv xs xs w ha hb; simpa using this
section
variable {P : Program} {ops : Array Oper} {Q : Exit → Act → World → Prop} {S : World → Prop} {a : Act} {w : World} {rest : List Oper} {o : Oper}
theorem wpList_wanted (hw : Region.wanted o (yielded ops a.tmps) = true)
    (h : ∀ K : Act → World → Prop, (∀ a w, wpList P ops Q rest a w → K a w) → o.wp P a w K Q) : wpList P ops Q (o :: rest) a w :=
  wpList_step fun K hK => by rw [if_pos hw]; exact h K hK
theorem q_callG (hw : Region.wanted o (yielded ops a.tmps) = true) {f : FuncId} {args : Array Value} {R : Ending → World → Prop} (hc : Calls P f args w R) (hr : (execOp a.eval o).run P w = .ok (.enter f args) w)
    (hn : ∀ e w', R e w' → ∃ v, e = .returned v ∧ wpList P ops Q rest (a.put o.dst v) w') : wpList P ops Q (o :: rest) a w := by
  refine wpList_wanted hw fun K hK => ?_
  unfold Oper.wp
  rw [hr]
  refine Calls.mono hc fun e w' he => ?_
  obtain ⟨v, rfl, hk⟩ := hn e w' he
  exact hK _ _ hk
theorem q_bsliceG {d : Option Tmp} {ty : TypeId} {pos : String} {after : Array Edge} {gd : Option (Nat × Bool)} {t e : TypeId} {n : Nat} {parts : Array (Nat × Operand)} {cs : Array Value} (hw : Region.wanted (⟨d, .buildSlice t n parts, ty, pos, after, gd⟩ : Oper) (yielded ops a.tmps) = true)
    (h : (Instr.buildSlice t n (parts.map fun (i, x) => (i, a.eval x))).run P w = .ok (.slice (some ⟨w.heap.size, 0, none⟩) n n) (w.alloc (.cells cs e)))
    (k : ∀ W g, Ext w W → Blk W g e cs → w.heap.size ≤ g → wpList P ops Q rest (a.put d (.slice (some ⟨g, 0, none⟩) n n)) W) :
    wpList P ops Q (⟨d, .buildSlice t n parts, ty, pos, after, gd⟩ :: rest) a w :=
  wpList_wanted hw fun K hK => by
    have h' : (execOp a.eval (⟨d, .buildSlice t n parts, ty, pos, after, gd⟩ : Oper)).run P w = .ok (.value (.slice (some ⟨w.heap.size, 0, none⟩) n n)) (w.alloc (.cells cs e)) := by
      simp [execOp, h]
    unfold Oper.wp; rw [h']
    exact hK _ _ (k _ _ (Ext.ofAlloc _ _) (Blk.new _ _ _) (Nat.le_refl _))
theorem t_takeW {i : Nat} {r : OTree} {v : Value} (ho : ops[i]? = some o) (hw : Region.wanted o (yielded ops a.tmps) = true) (hy : ∀ w, S w → (execOp a.eval o).run P w = .ok (.value v) w) (hS : S w)
    (k : wpTree P ops Q S r (a.put o.dst v) w) : wpTree P ops Q S (.take i r) a w :=
  ⟨o, v, ho, .inl ⟨hw, hy⟩, hS, k⟩
end
theorem Ints.row {w w' : World} {v : Value} {xs : List Int} {g : Nat} (h : Ints w v xs) (hg : w.grownBy w' (some g)) (hb : w.heap.size ≤ g) : Ints w' v xs := h.ext (below_grown (Ext.refl w) hg hb (Nat.le_refl _))
set_option maxHeartbeats 8000000 in
theorem Awake_any (w : World) (hv : Env w) : Calls Tryz.prog 24 #[] w fun e w' => e = .returned (.bool true) ∧ Ext w w' := by
  have hE := Ext.refl w
  go_enter Tryz.func24, Tryz.ntmps24
  go_wp2_with (first | (go_at_call 42; refine (Code_any _).mono ?_; rintro e Wc ⟨vc, rfl, hC, hEx⟩; (try replace hE := Ext.trans hE hEx); (try replace hSh := hSh.ext hEx); (try replace hB4 := hB4.ext hEx); (try replace hK4 := hK4.ext hEx); (try replace h10 := h10.ext hEx); (try replace h14 := h14.ext hEx); (try replace h16 := h16.ext hEx); (try replace hB20 := hB20.ext hEx); (try replace hK20 := hK20.ext hEx); (try replace hIb := hIb.ext hEx); (try replace hIc := hIc.ext hEx); clear hEx) | (go_at_call 43; refine (Sheet_any _).mono ?_; rintro e Wc ⟨vs, rfl, hSh, hEx⟩; (try replace hE := Ext.trans hE hEx); (try replace hC := hC.ext hEx); (try replace hB4 := hB4.ext hEx); (try replace hK4 := hK4.ext hEx); (try replace h10 := h10.ext hEx); (try replace h14 := h14.ext hEx); (try replace h16 := h16.ext hEx); (try replace hB20 := hB20.ext hEx); (try replace hK20 := hK20.ext hEx); (try replace hIb := hIb.ext hEx); (try replace hIc := hIc.ext hEx); clear hEx) | ((with_reducible refine q_bslice (d := some 26) (t := 26) (n := 4) (e := 3) (cs := #[.int .i64 0, .int .i64 1, .int .i64 3, .int .i64 0]) ?_ ?_); (simp [Act.eval]; exact bsI4 _ 0 1 3 0); intro Wb gb hEb hBb hgb; (try replace hE := Ext.trans hE hEb); (try replace hC := hC.ext hEb); (try replace hSh := hSh.ext hEb); (try replace hB4 := hB4.ext hEb); (try replace hK4 := hK4.ext hEb); (try replace h10 := h10.ext hEb); (try replace h14 := h14.ext hEb); (try replace h16 := h16.ext hEb); (try replace hB20 := hB20.ext hEb); (try replace hK20 := hK20.ext hEb); (try replace hIc := hIc.ext hEb); have hIb := ints_blk (xs := [0, 1, 3, 0]) hBb (by decide); clear hBb hEb hgb) | (go_at_call 19; refine (PJudge_any _ _ exCode _ _ hC hIb).mono ?_; rw [ex_judge]; rintro e Wc ⟨rfl, hEx⟩; (try replace hE := Ext.trans hE hEx); (try replace hC := hC.ext hEx); (try replace hSh := hSh.ext hEx); (try replace hB4 := hB4.ext hEx); (try replace hK4 := hK4.ext hEx); (try replace h10 := h10.ext hEx); (try replace h14 := h14.ext hEx); (try replace h16 := h16.ext hEx); (try replace hB20 := hB20.ext hEx); (try replace hK20 := hK20.ext hEx); (try replace hIb := hIb.ext hEx); (try replace hIc := hIc.ext hEx); clear hEx) | ((with_reducible refine q_bslice (d := some 33) (t := 26) (n := 4) (e := 3) (cs := #[.int .i64 0, .int .i64 1, .int .i64 3, .int .i64 0]) ?_ ?_); (simp [Act.eval]; exact bsI4 _ 0 1 3 0); intro Wb gb hEb hBb hgb; (try replace hE := Ext.trans hE hEb); (try replace hC := hC.ext hEb); (try replace hSh := hSh.ext hEb); (try replace hB4 := hB4.ext hEb); (try replace hK4 := hK4.ext hEb); (try replace h10 := h10.ext hEb); (try replace h14 := h14.ext hEb); (try replace h16 := h16.ext hEb); (try replace hB20 := hB20.ext hEb); (try replace hK20 := hK20.ext hEb); (try replace hIc := hIc.ext hEb); have hIb := ints_blk (xs := [0, 1, 3, 0]) hBb (by decide); clear hBb hEb hgb) | ((with_reducible refine q_bslice (d := some 34) (t := 26) (n := 2) (e := 3) (cs := #[.int .i64 2, .int .i64 4]) ?_ ?_); (simp [Act.eval]; exact bsI2 _ 2 4); intro Wb gb hEb hBb hgb; (try replace hE := Ext.trans hE hEb); (try replace hC := hC.ext hEb); (try replace hSh := hSh.ext hEb); (try replace hB4 := hB4.ext hEb); (try replace hK4 := hK4.ext hEb); (try replace h10 := h10.ext hEb); (try replace h14 := h14.ext hEb); (try replace h16 := h16.ext hEb); (try replace hB20 := hB20.ext hEb); (try replace hK20 := hK20.ext hEb); (try replace hIb := hIb.ext hEb); have hIc := ints_blk (xs := [2, 4]) hBb (by decide); clear hBb hEb hgb) | (go_at_call 25; refine (PKeep_any _ _ _ exCode _ _ _ hC hIb hIc).mono ?_; rw [ex_keep]; rintro e Wc ⟨v4, rfl, ⟨kv4, rfl, hK4⟩, hEx⟩; (try replace hE := Ext.trans hE hEx); (try replace hC := hC.ext hEx); (try replace hSh := hSh.ext hEx); (try replace hB4 := hB4.ext hEx); (try replace h10 := h10.ext hEx); (try replace h14 := h14.ext hEx); (try replace h16 := h16.ext hEx); (try replace hB20 := hB20.ext hEx); (try replace hK20 := hK20.ext hEx); (try replace hIb := hIb.ext hEx); (try replace hIc := hIc.ext hEx); clear hEx; obtain ⟨A4, c4, rfl, _, _, _, _⟩ := id hK4; clear hIb hIc) | ((with_reducible refine q_alloc (d := some 4) ti39 ?_); intro W4 g4 hE4 hB4 hg4; simp [Value.cells] at hB4) | ((with_reducible refine q_store (t := 39) (e := 39) (g := g4) (off := 0) (n := 2) (v := .agg #[.int .i64 exSheet.lines, .slice A4 exSheet.kept.length c4]) ?_ ?_ hB4 size39 ?_ ?_ ?_ ?_); rfl; rfl; rfl; (simp [Value.cells]); (simp [Value.cells, Value.oneCell']); intro Wq hBq hgs; simp [putAt, Value.cells] at hBq; have hX := below_grown hE4 hgs hg4 hE4.size; (try replace hE := Ext.trans hE hX); (try replace hC := hC.ext hX); (try replace hSh := hSh.ext hX); (try replace hK4 := hK4.ext hX); (try replace h10 := h10.ext hX); (try replace h14 := h14.ext hX); (try replace h16 := h16.ext hX); (try replace hB20 := hB20.ext hX); (try replace hK20 := hK20.ext hX); (try replace hIb := hIb.ext hX); (try replace hIc := hIc.ext hX); have hB4 := hBq; clear hgs hX) | (go_at_call 28; refine (PFits_any _ _ exCode exSheet _ hC hSh).mono ?_; rw [ex_fits]; rintro e Wc ⟨rfl, hEx⟩; (try replace hE := Ext.trans hE hEx); (try replace hC := hC.ext hEx); (try replace hSh := hSh.ext hEx); (try replace hB4 := hB4.ext hEx); (try replace hK4 := hK4.ext hEx); (try replace h10 := h10.ext hEx); (try replace h14 := h14.ext hEx); (try replace h16 := h16.ext hEx); (try replace hB20 := hB20.ext hEx); (try replace hK20 := hK20.ext hEx); (try replace hIb := hIb.ext hEx); (try replace hIc := hIc.ext hEx); clear hEx) | (go_at_call 30; refine (POutcome_any _ _ exCode exSheet _ hC hSh).mono ?_; rw [ex_outcome]; rintro e Wc ⟨rfl, hEx⟩; (try replace hE := Ext.trans hE hEx); (try replace hC := hC.ext hEx); (try replace hSh := hSh.ext hEx); (try replace hB4 := hB4.ext hEx); (try replace hK4 := hK4.ext hEx); (try replace h10 := h10.ext hEx); (try replace h14 := h14.ext hEx); (try replace h16 := h16.ext hEx); (try replace hB20 := hB20.ext hEx); (try replace hK20 := hK20.ext hEx); (try replace hIb := hIb.ext hEx); (try replace hIc := hIc.ext hEx); clear hEx) | (go_at_call 32; refine (PShow_any _ _ exCode exSheet false _ hC hSh).mono ?_; rw [ex_show]; rintro e Wc ⟨v10, rfl, h10, hEx⟩; (try replace hE := Ext.trans hE hEx); (try replace hC := hC.ext hEx); (try replace hSh := hSh.ext hEx); (try replace hB4 := hB4.ext hEx); (try replace hK4 := hK4.ext hEx); (try replace h14 := h14.ext hEx); (try replace h16 := h16.ext hEx); (try replace hB20 := hB20.ext hEx); (try replace hK20 := hK20.ext hEx); (try replace hIb := hIb.ext hEx); (try replace hIc := hIc.ext hEx); clear hEx; replace h10 := h10.ints) | ((with_reducible refine q_bslice (d := some 59) (t := 26) (n := 1) (e := 3) (cs := #[.int .i64 4]) ?_ ?_); (simp [Act.eval]; exact bsI1 _ 4); intro Wb gb hEb hBb hgb; (try replace hE := Ext.trans hE hEb); (try replace hC := hC.ext hEb); (try replace hSh := hSh.ext hEb); (try replace hB4 := hB4.ext hEb); (try replace hK4 := hK4.ext hEb); (try replace h10 := h10.ext hEb); (try replace h14 := h14.ext hEb); (try replace h16 := h16.ext hEb); (try replace hB20 := hB20.ext hEb); (try replace hK20 := hK20.ext hEb); (try replace hIc := hIc.ext hEb); have hIb := ints_blk (xs := [4]) hBb (by decide); clear hBb hEb hgb) | (go_at_call 34; refine (PEnough_any _ _ _ exCode exSheet _ _ hC hSh hIb).mono ?_; rw [ex_enough]; rintro e Wc ⟨rfl, hEx⟩; (try replace hE := Ext.trans hE hEx); (try replace hC := hC.ext hEx); (try replace hSh := hSh.ext hEx); (try replace hB4 := hB4.ext hEx); (try replace hK4 := hK4.ext hEx); (try replace h10 := h10.ext hEx); (try replace h14 := h14.ext hEx); (try replace h16 := h16.ext hEx); (try replace hB20 := hB20.ext hEx); (try replace hK20 := hK20.ext hEx); (try replace hIb := hIb.ext hEx); (try replace hIc := hIc.ext hEx); clear hEx) | (go_at_call 36; refine (PFewest_any _ _ exCode exSheet _ hC hSh).mono ?_; rw [ex_fewest]; rintro e Wc ⟨v14, rfl, h14, hEx⟩; (try replace hE := Ext.trans hE hEx); (try replace hC := hC.ext hEx); (try replace hSh := hSh.ext hEx); (try replace hB4 := hB4.ext hEx); (try replace hK4 := hK4.ext hEx); (try replace h10 := h10.ext hEx); (try replace h16 := h16.ext hEx); (try replace hB20 := hB20.ext hEx); (try replace hK20 := hK20.ext hEx); (try replace hIb := hIb.ext hEx); (try replace hIc := hIc.ext hEx); clear hEx; replace h14 := h14.ints) | ((with_reducible refine q_bslice (d := some 71) (t := 26) (n := 5) (e := 3) (cs := #[.int .i64 0, .int .i64 1, .int .i64 1, .int .i64 3, .int .i64 0]) ?_ ?_); (simp [Act.eval]; exact bsI5 _ 0 1 1 3 0); intro Wb gb hEb hBb hgb; (try replace hE := Ext.trans hE hEb); (try replace hC := hC.ext hEb); (try replace hSh := hSh.ext hEb); (try replace hB4 := hB4.ext hEb); (try replace hK4 := hK4.ext hEb); (try replace h10 := h10.ext hEb); (try replace h14 := h14.ext hEb); (try replace h16 := h16.ext hEb); (try replace hB20 := hB20.ext hEb); (try replace hK20 := hK20.ext hEb); (try replace hIc := hIc.ext hEb); have hIb := ints_blk (xs := [0, 1, 1, 3, 0]) hBb (by decide); clear hBb hEb hgb) | (go_at_call 21; first | (refine (PAppeal_any _ _ exCode [0, 1, 1, 3, 0] _ hC hIb).mono ?_; rw [ex_appeal]; rintro e Wc ⟨v16, rfl, h16, hEx⟩; (try replace hE := Ext.trans hE hEx); (try replace hC := hC.ext hEx); (try replace hSh := hSh.ext hEx); (try replace hB4 := hB4.ext hEx); (try replace hK4 := hK4.ext hEx); (try replace h10 := h10.ext hEx); (try replace h14 := h14.ext hEx); (try replace hB20 := hB20.ext hEx); (try replace hK20 := hK20.ext hEx); (try replace hIb := hIb.ext hEx); (try replace hIc := hIc.ext hEx); replace h16 := h16.ints; clear hEx) | (refine (PAppeal_any _ _ exCode [0, 0] _ hC hIb).mono ?_; rw [ex_none]; rintro e Wc ⟨vn, rfl, _, hEx⟩; (try replace hE := Ext.trans hE hEx); (try replace hC := hC.ext hEx); (try replace hSh := hSh.ext hEx); (try replace hB4 := hB4.ext hEx); (try replace hK4 := hK4.ext hEx); (try replace h10 := h10.ext hEx); (try replace h14 := h14.ext hEx); (try replace h16 := h16.ext hEx); (try replace hB20 := hB20.ext hEx); (try replace hK20 := hK20.ext hEx); (try replace hIb := hIb.ext hEx); (try replace hIc := hIc.ext hEx); clear hEx)) | (go_at_call 38; refine (PWrite_any _ _ exCode exSheet _ hC hSh (hv.ext hE)).mono ?_; rw [ex_write]; rintro e Wc ⟨rfl, hEx⟩; (try replace hE := Ext.trans hE hEx); (try replace hC := hC.ext hEx); (try replace hSh := hSh.ext hEx); (try replace hB4 := hB4.ext hEx); (try replace hK4 := hK4.ext hEx); (try replace h10 := h10.ext hEx); (try replace h14 := h14.ext hEx); (try replace h16 := h16.ext hEx); (try replace hB20 := hB20.ext hEx); (try replace hK20 := hK20.ext hEx); (try replace hIb := hIb.ext hEx); (try replace hIc := hIc.ext hEx); clear hEx) | (go_at_call 40; refine (PRead_any _ exCode (S exText) _ hC (hv.ext hE) (by decide)).mono ?_; rw [ex_read]; rintro e Wc ⟨v20, rfl, ⟨kv20, rfl, hK20⟩, hEx⟩; (try replace hE := Ext.trans hE hEx); (try replace hC := hC.ext hEx); (try replace hSh := hSh.ext hEx); (try replace hB4 := hB4.ext hEx); (try replace hK4 := hK4.ext hEx); (try replace h10 := h10.ext hEx); (try replace h14 := h14.ext hEx); (try replace h16 := h16.ext hEx); (try replace hB20 := hB20.ext hEx); (try replace hIb := hIb.ext hEx); (try replace hIc := hIc.ext hEx); clear hEx; obtain ⟨A20, c20, rfl, _, _, _, _⟩ := id hK20) | ((with_reducible refine q_alloc (d := some 20) ti39 ?_); intro W20 g20 hE20 hB20 hg20; simp [Value.cells] at hB20) | ((with_reducible refine q_store (t := 39) (e := 39) (g := g20) (off := 0) (n := 2) (v := .agg #[.int .i64 exSheet.lines, .slice A20 exSheet.kept.length c20]) ?_ ?_ hB20 size39 ?_ ?_ ?_ ?_); rfl; rfl; rfl; (simp [Value.cells]); (simp [Value.cells, Value.oneCell']); intro Wq hBq hgs; simp [putAt, Value.cells] at hBq; have hX := below_grown hE20 hgs hg20 hE20.size; (try replace hE := Ext.trans hE hX); (try replace hC := hC.ext hX); (try replace hSh := hSh.ext hX); (try replace hB4 := hB4.ext hX); (try replace hK4 := hK4.ext hX); (try replace h10 := h10.ext hX); (try replace h14 := h14.ext hX); (try replace h16 := h16.ext hX); (try replace hK20 := hK20.ext hX); (try replace hIb := hIb.ext hX); (try replace hIc := hIc.ext hX); have hB20 := hBq; clear hgs hX) | ((with_reducible refine q_bslice (d := some 89) (t := 26) (n := 2) (e := 3) (cs := #[.int .i64 0, .int .i64 0]) ?_ ?_); (simp [Act.eval]; exact bsI2 _ 0 0); intro Wb gb hEb hBb hgb; (try replace hE := Ext.trans hE hEb); (try replace hC := hC.ext hEb); (try replace hSh := hSh.ext hEb); (try replace hB4 := hB4.ext hEb); (try replace hK4 := hK4.ext hEb); (try replace h10 := h10.ext hEb); (try replace h14 := h14.ext hEb); (try replace h16 := h16.ext hEb); (try replace hB20 := hB20.ext hEb); (try replace hK20 := hK20.ext hEb); (try replace hIc := hIc.ext hEb); have hIb := ints_blk (xs := [0, 0]) hBb (by decide); clear hBb hEb hgb))
  have hdr := Ext.todrew (Ext.refl Wc)
  (try replace hE := Ext.trans hE hdr); (try replace hC := hC.ext hdr); (try replace hSh := hSh.ext hdr); (try replace hB4 := hB4.ext hdr); (try replace hK4 := hK4.ext hdr); (try replace h10 := h10.ext hdr); (try replace h14 := h14.ext hdr); (try replace h16 := h16.ext hdr); (try replace hB20 := hB20.ext hdr); (try replace hK20 := hK20.ext hdr); (try replace hIb := hIb.ext hdr); (try replace hIc := hIc.ext hdr)
  refine wp_region_tree (.take 0 (.take 1 (.take 2 (.take 3 (.take 4 (.take 5 (.take 6 (.take 7 (.take 8 (.take 9 (.take 10 (.take 11 (.take 12 (.take 13 (.take 14 (.take 15 (.take 16 (.take 17 (.take 18 (.take 19 (.take 20 (.take 21 (.take 22 (.take 23 (.take 24 (.take 25 (.take 26 (.take 27 (.take 28 (.take 29 (.take 30 (.take 31 (.take 32 (.take 33 (.take 34 (.take 35 (.take 36 (.take 37 (.take 38 (.take 39 (.take 40 (.take 41 (.take 42 (.take 43 (.take 44 (.take 45 (.take 46 (.take 47 (.take 48 (.take 49 (.take 50 (.one 51 (.one 52 (.take 53 (.take 54 (.take 55 (.take 56 (.take 57 (.take 58 (.take 59 (.take 60 (.take 61 (.take 62 (.take 63 (.one 64 (.one 65 (.take 66 (.take 67 (.take 68 (.take 69 (.take 70 (.take 71 (.one 72 (.one 73 (.take 74 (.take 75 (.take 76 (.one 77 (.one 78 (.take 79 (.take 80 (.take 81 (.take 82 (.take 83 (.take 84 (.take 85 (.one 86 (.one 87 (.take 88 (.take 89 .nil)))))))))))))))))))))))))))))))))))))))))))))))))))))))))))))))))))))))))))))))))))))))))) (fun w' => Blk w' g4 39 #[.int .i64 exSheet.lines, .slice A4 exSheet.kept.length c4] ∧ Blk w' g20 39 #[.int .i64 exSheet.lines, .slice A20 exSheet.kept.length c20]) (by kernel_rfl) (by kernel_rfl) (by kernel_rfl) (by exact ok12) (fun _ _ _ _ _ h => h) ?_ (fun hHeld => ?_)
  · (first | exact True.intro | ((try dsimp only); (repeat' apply And.intro) <;> first | assumption | (refine Ext.cell_some (Ext.todrew (Ext.refl _)) ?_; assumption)))
  refine t_takeW (i := 0) (v := ?_) (by (simp only [List.getElem?_toArray, List.getElem?_cons_succ, List.getElem?_cons_zero]); rfl) (by rfl) ?_ (by exact hHeld) ?_
  rotate_left
  · (intro wq hSw; (try dsimp only at hSw); go_simp; (try with_reducible rfl))
  (try simp only [Act.put, List.setIfInBounds_toArray, List.set_cons_zero, List.set_cons_succ])
  refine t_takeW (i := 1) (v := ?_) (by (simp only [List.getElem?_toArray, List.getElem?_cons_succ, List.getElem?_cons_zero]); rfl) (by rfl) ?_ (by exact hHeld) ?_
  rotate_left
  · (intro wq hSw; (try dsimp only at hSw); go_simp; (try with_reducible rfl))
  (try simp only [Act.put, List.setIfInBounds_toArray, List.set_cons_zero, List.set_cons_succ])
  refine t_takeW (i := 2) (v := ?_) (by (simp only [List.getElem?_toArray, List.getElem?_cons_succ, List.getElem?_cons_zero]); rfl) (by rfl) ?_ (by exact hHeld) ?_
  rotate_left
  · (intro wq hSw; (try dsimp only at hSw); go_simp; (try with_reducible rfl))
  (try simp only [Act.put, List.setIfInBounds_toArray, List.set_cons_zero, List.set_cons_succ])
  refine t_takeW (i := 3) (v := ?_) (by (simp only [List.getElem?_toArray, List.getElem?_cons_succ, List.getElem?_cons_zero]); rfl) (by rfl) ?_ (by exact hHeld) ?_
  rotate_left
  · (intro wq hSw; (try dsimp only at hSw); go_simp; (try with_reducible rfl))
  (try simp only [Act.put, List.setIfInBounds_toArray, List.set_cons_zero, List.set_cons_succ])
  refine t_takeW (i := 4) (v := ?_) (by (simp only [List.getElem?_toArray, List.getElem?_cons_succ, List.getElem?_cons_zero]); rfl) (by rfl) ?_ (by exact hHeld) ?_
  rotate_left
  · (intro wq hSw; (try dsimp only at hSw); go_simp; (try with_reducible rfl))
  (try simp only [Act.put, List.setIfInBounds_toArray, List.set_cons_zero, List.set_cons_succ])
  refine t_takeW (i := 5) (v := ?_) (by (simp only [List.getElem?_toArray, List.getElem?_cons_succ, List.getElem?_cons_zero]); rfl) (by rfl) ?_ (by exact hHeld) ?_
  rotate_left
  · (intro wq hSw; (try dsimp only at hSw); go_simp; (try with_reducible rfl))
  (try simp only [Act.put, List.setIfInBounds_toArray, List.set_cons_zero, List.set_cons_succ])
  refine t_takeW (i := 6) (v := ?_) (by (simp only [List.getElem?_toArray, List.getElem?_cons_succ, List.getElem?_cons_zero]); rfl) (by rfl) ?_ (by exact hHeld) ?_
  rotate_left
  · (intro wq hSw; (try dsimp only at hSw); go_simp; (try with_reducible rfl))
  (try simp only [Act.put, List.setIfInBounds_toArray, List.set_cons_zero, List.set_cons_succ])
  refine t_takeW (i := 7) (v := ?_) (by (simp only [List.getElem?_toArray, List.getElem?_cons_succ, List.getElem?_cons_zero]); rfl) (by rfl) ?_ (by exact hHeld) ?_
  rotate_left
  · (intro wq hSw; (try dsimp only at hSw); go_simp; (try with_reducible rfl))
  (try simp only [Act.put, List.setIfInBounds_toArray, List.set_cons_zero, List.set_cons_succ])
  refine t_takeW (i := 8) (v := ?_) (by (simp only [List.getElem?_toArray, List.getElem?_cons_succ, List.getElem?_cons_zero]); rfl) (by rfl) ?_ (by exact hHeld) ?_
  rotate_left
  · (intro wq hSw; (try dsimp only at hSw); go_simp; (try with_reducible rfl))
  (try simp only [Act.put, List.setIfInBounds_toArray, List.set_cons_zero, List.set_cons_succ])
  refine t_takeW (i := 9) (v := ?_) (by (simp only [List.getElem?_toArray, List.getElem?_cons_succ, List.getElem?_cons_zero]); rfl) (by rfl) ?_ (by exact hHeld) ?_
  rotate_left
  · (intro wq hSw; (try dsimp only at hSw); go_simp; (try with_reducible rfl))
  (try simp only [Act.put, List.setIfInBounds_toArray, List.set_cons_zero, List.set_cons_succ])
  refine t_takeW (i := 10) (v := ?_) (by (simp only [List.getElem?_toArray, List.getElem?_cons_succ, List.getElem?_cons_zero]); rfl) (by rfl) ?_ (by exact hHeld) ?_
  rotate_left
  · (intro wq hSw; (try dsimp only at hSw); go_simp; (try with_reducible rfl))
  (try simp only [Act.put, List.setIfInBounds_toArray, List.set_cons_zero, List.set_cons_succ])
  refine t_takeW (i := 11) (v := ?_) (by (simp only [List.getElem?_toArray, List.getElem?_cons_succ, List.getElem?_cons_zero]); rfl) (by rfl) ?_ (by exact hHeld) ?_
  rotate_left
  · (intro wq hSw; (try dsimp only at hSw); go_simp; (try with_reducible rfl))
  (try simp only [Act.put, List.setIfInBounds_toArray, List.set_cons_zero, List.set_cons_succ])
  refine t_takeW (i := 12) (v := ?_) (by (simp only [List.getElem?_toArray, List.getElem?_cons_succ, List.getElem?_cons_zero]); rfl) (by rfl) ?_ (by exact hHeld) ?_
  rotate_left
  · (intro wq hSw; (try dsimp only at hSw); go_simp; (try with_reducible rfl))
  (try simp only [Act.put, List.setIfInBounds_toArray, List.set_cons_zero, List.set_cons_succ])
  refine t_takeW (i := 13) (v := ?_) (by (simp only [List.getElem?_toArray, List.getElem?_cons_succ, List.getElem?_cons_zero]); rfl) (by rfl) ?_ (by exact hHeld) ?_
  rotate_left
  · (intro wq hSw; (try dsimp only at hSw); go_simp; (try with_reducible rfl))
  (try simp only [Act.put, List.setIfInBounds_toArray, List.set_cons_zero, List.set_cons_succ])
  refine t_takeW (i := 14) (v := ?_) (by (simp only [List.getElem?_toArray, List.getElem?_cons_succ, List.getElem?_cons_zero]); rfl) (by rfl) ?_ (by exact hHeld) ?_
  rotate_left
  · (intro wq hSw; (try dsimp only at hSw); go_simp; (try with_reducible rfl))
  (try simp only [Act.put, List.setIfInBounds_toArray, List.set_cons_zero, List.set_cons_succ])
  refine t_takeW (i := 15) (v := ?_) (by (simp only [List.getElem?_toArray, List.getElem?_cons_succ, List.getElem?_cons_zero]); rfl) (by rfl) ?_ (by exact hHeld) ?_
  rotate_left
  · (intro wq hSw; (try dsimp only at hSw); go_simp; (try with_reducible rfl))
  (try simp only [Act.put, List.setIfInBounds_toArray, List.set_cons_zero, List.set_cons_succ])
  refine t_takeW (i := 16) (v := ?_) (by (simp only [List.getElem?_toArray, List.getElem?_cons_succ, List.getElem?_cons_zero]); rfl) (by rfl) ?_ (by exact hHeld) ?_
  rotate_left
  · (intro wq hSw; (try dsimp only at hSw); go_simp; (try with_reducible rfl))
  (try simp only [Act.put, List.setIfInBounds_toArray, List.set_cons_zero, List.set_cons_succ])
  refine t_takeW (i := 17) (v := ?_) (by (simp only [List.getElem?_toArray, List.getElem?_cons_succ, List.getElem?_cons_zero]); rfl) (by rfl) ?_ (by exact hHeld) ?_
  rotate_left
  · (intro wq hSw; (try dsimp only at hSw); go_simp; (try with_reducible rfl))
  (try simp only [Act.put, List.setIfInBounds_toArray, List.set_cons_zero, List.set_cons_succ])
  refine t_takeW (i := 18) (v := ?_) (by (simp only [List.getElem?_toArray, List.getElem?_cons_succ, List.getElem?_cons_zero]); rfl) (by rfl) ?_ (by exact hHeld) ?_
  rotate_left
  · (intro wq hSw; (try dsimp only at hSw); go_simp; (try with_reducible rfl))
  (try simp only [Act.put, List.setIfInBounds_toArray, List.set_cons_zero, List.set_cons_succ])
  refine t_takeW (i := 19) (v := ?_) (by (simp only [List.getElem?_toArray, List.getElem?_cons_succ, List.getElem?_cons_zero]); rfl) (by rfl) ?_ (by exact hHeld) ?_
  rotate_left
  · (intro wq hSw; (try dsimp only at hSw); go_simp; (try with_reducible rfl))
  (try simp only [Act.put, List.setIfInBounds_toArray, List.set_cons_zero, List.set_cons_succ])
  refine t_takeW (i := 20) (v := ?_) (by (simp only [List.getElem?_toArray, List.getElem?_cons_succ, List.getElem?_cons_zero]); rfl) (by rfl) ?_ (by exact hHeld) ?_
  rotate_left
  · (intro wq hSw; (try dsimp only at hSw); go_simp; (try with_reducible rfl))
  (try simp only [Act.put, List.setIfInBounds_toArray, List.set_cons_zero, List.set_cons_succ])
  refine t_takeW (i := 21) (v := ?_) (by (simp only [List.getElem?_toArray, List.getElem?_cons_succ, List.getElem?_cons_zero]); rfl) (by rfl) ?_ (by exact hHeld) ?_
  rotate_left
  · (intro wq hSw; (try dsimp only at hSw); go_simp; (try with_reducible rfl))
  (try simp only [Act.put, List.setIfInBounds_toArray, List.set_cons_zero, List.set_cons_succ])
  refine t_takeW (i := 22) (v := ?_) (by (simp only [List.getElem?_toArray, List.getElem?_cons_succ, List.getElem?_cons_zero]); rfl) (by rfl) ?_ (by exact hHeld) ?_
  rotate_left
  · (intro wq hSw; (try dsimp only at hSw); go_simp; (try with_reducible rfl))
  (try simp only [Act.put, List.setIfInBounds_toArray, List.set_cons_zero, List.set_cons_succ])
  refine t_takeW (i := 23) (v := ?_) (by (simp only [List.getElem?_toArray, List.getElem?_cons_succ, List.getElem?_cons_zero]); rfl) (by rfl) ?_ (by exact hHeld) ?_
  rotate_left
  · (intro wq hSw; (try dsimp only at hSw); go_simp; (try with_reducible rfl))
  (try simp only [Act.put, List.setIfInBounds_toArray, List.set_cons_zero, List.set_cons_succ])
  refine t_takeW (i := 24) (v := ?_) (by (simp only [List.getElem?_toArray, List.getElem?_cons_succ, List.getElem?_cons_zero]); rfl) (by rfl) ?_ (by exact hHeld) ?_
  rotate_left
  · (intro wq hSw; (try dsimp only at hSw); go_simp; (try with_reducible rfl))
  (try simp only [Act.put, List.setIfInBounds_toArray, List.set_cons_zero, List.set_cons_succ])
  refine t_takeW (i := 25) (v := ?_) (by (simp only [List.getElem?_toArray, List.getElem?_cons_succ, List.getElem?_cons_zero]); rfl) (by rfl) ?_ (by exact hHeld) ?_
  rotate_left
  · (intro wq hSw; (try dsimp only at hSw); go_simp; (try with_reducible rfl))
  (try simp only [Act.put, List.setIfInBounds_toArray, List.set_cons_zero, List.set_cons_succ])
  refine t_takeW (i := 26) (v := ?_) (by (simp only [List.getElem?_toArray, List.getElem?_cons_succ, List.getElem?_cons_zero]); rfl) (by rfl) ?_ (by exact hHeld) ?_
  rotate_left
  · (intro wq hSw; (try dsimp only at hSw); go_simp; (try with_reducible rfl))
  (try simp only [Act.put, List.setIfInBounds_toArray, List.set_cons_zero, List.set_cons_succ])
  refine t_takeW (i := 27) (v := ?_) (by (simp only [List.getElem?_toArray, List.getElem?_cons_succ, List.getElem?_cons_zero]); rfl) (by rfl) ?_ (by exact hHeld) ?_
  rotate_left
  · (intro wq hSw; (try dsimp only at hSw); go_simp; (try with_reducible rfl))
  (try simp only [Act.put, List.setIfInBounds_toArray, List.set_cons_zero, List.set_cons_succ])
  refine t_takeW (i := 28) (v := ?_) (by (simp only [List.getElem?_toArray, List.getElem?_cons_succ, List.getElem?_cons_zero]); rfl) (by rfl) ?_ (by exact hHeld) ?_
  rotate_left
  · (intro wq hSw; (try dsimp only at hSw); go_simp; (try with_reducible rfl))
  (try simp only [Act.put, List.setIfInBounds_toArray, List.set_cons_zero, List.set_cons_succ])
  refine t_takeW (i := 29) (v := ?_) (by (simp only [List.getElem?_toArray, List.getElem?_cons_succ, List.getElem?_cons_zero]); rfl) (by rfl) ?_ (by exact hHeld) ?_
  rotate_left
  · (intro wq hSw; (try dsimp only at hSw); go_simp; (try with_reducible rfl))
  (try simp only [Act.put, List.setIfInBounds_toArray, List.set_cons_zero, List.set_cons_succ])
  refine t_takeW (i := 30) (v := ?_) (by (simp only [List.getElem?_toArray, List.getElem?_cons_succ, List.getElem?_cons_zero]); rfl) (by rfl) ?_ (by exact hHeld) ?_
  rotate_left
  · (intro wq hSw; (try dsimp only at hSw); go_simp; (try with_reducible rfl))
  (try simp only [Act.put, List.setIfInBounds_toArray, List.set_cons_zero, List.set_cons_succ])
  refine t_takeW (i := 31) (v := ?_) (by (simp only [List.getElem?_toArray, List.getElem?_cons_succ, List.getElem?_cons_zero]); rfl) (by rfl) ?_ (by exact hHeld) ?_
  rotate_left
  · (intro wq hSw; (try dsimp only at hSw); go_simp; (try with_reducible rfl))
  (try simp only [Act.put, List.setIfInBounds_toArray, List.set_cons_zero, List.set_cons_succ])
  refine t_takeW (i := 32) (v := ?_) (by (simp only [List.getElem?_toArray, List.getElem?_cons_succ, List.getElem?_cons_zero]); rfl) (by rfl) ?_ (by exact hHeld) ?_
  rotate_left
  · (intro wq hSw; (try dsimp only at hSw); go_simp; (try with_reducible rfl))
  (try simp only [Act.put, List.setIfInBounds_toArray, List.set_cons_zero, List.set_cons_succ])
  refine t_takeW (i := 33) (v := ?_) (by (simp only [List.getElem?_toArray, List.getElem?_cons_succ, List.getElem?_cons_zero]); rfl) (by rfl) ?_ (by exact hHeld) ?_
  rotate_left
  · (intro wq hSw; (try dsimp only at hSw); go_simp; (try with_reducible rfl))
  (try simp only [Act.put, List.setIfInBounds_toArray, List.set_cons_zero, List.set_cons_succ])
  refine t_takeW (i := 34) (v := ?_) (by (simp only [List.getElem?_toArray, List.getElem?_cons_succ, List.getElem?_cons_zero]); rfl) (by rfl) ?_ (by exact hHeld) ?_
  rotate_left
  · (intro wq hSw; (try dsimp only at hSw); go_simp; (try with_reducible rfl))
  (try simp only [Act.put, List.setIfInBounds_toArray, List.set_cons_zero, List.set_cons_succ])
  refine t_takeW (i := 35) (v := ?_) (by (simp only [List.getElem?_toArray, List.getElem?_cons_succ, List.getElem?_cons_zero]); rfl) (by rfl) ?_ (by exact hHeld) ?_
  rotate_left
  · (intro wq hSw; (try dsimp only at hSw); go_simp; (try with_reducible rfl))
  (try simp only [Act.put, List.setIfInBounds_toArray, List.set_cons_zero, List.set_cons_succ])
  refine t_takeW (i := 36) (v := ?_) (by (simp only [List.getElem?_toArray, List.getElem?_cons_succ, List.getElem?_cons_zero]); rfl) (by rfl) ?_ (by exact hHeld) ?_
  rotate_left
  · (intro wq hSw; (try dsimp only at hSw); go_simp; (try with_reducible rfl))
  (try simp only [Act.put, List.setIfInBounds_toArray, List.set_cons_zero, List.set_cons_succ])
  refine t_takeW (i := 37) (v := ?_) (by (simp only [List.getElem?_toArray, List.getElem?_cons_succ, List.getElem?_cons_zero]); rfl) (by rfl) ?_ (by exact hHeld) ?_
  rotate_left
  · (intro wq hSw; (try dsimp only at hSw); go_simp; (try with_reducible rfl))
  (try simp only [Act.put, List.setIfInBounds_toArray, List.set_cons_zero, List.set_cons_succ])
  refine t_takeW (i := 38) (v := ?_) (by (simp only [List.getElem?_toArray, List.getElem?_cons_succ, List.getElem?_cons_zero]); rfl) (by rfl) ?_ (by exact hHeld) ?_
  rotate_left
  · (intro wq hSw; (try dsimp only at hSw); go_simp; (try with_reducible rfl))
  (try simp only [Act.put, List.setIfInBounds_toArray, List.set_cons_zero, List.set_cons_succ])
  refine t_takeW (i := 39) (v := ?_) (by (simp only [List.getElem?_toArray, List.getElem?_cons_succ, List.getElem?_cons_zero]); rfl) (by rfl) ?_ (by exact hHeld) ?_
  rotate_left
  · (intro wq hSw; (try dsimp only at hSw); go_simp; (try with_reducible rfl))
  (try simp only [Act.put, List.setIfInBounds_toArray, List.set_cons_zero, List.set_cons_succ])
  refine t_takeW (i := 40) (v := ?_) (by (simp only [List.getElem?_toArray, List.getElem?_cons_succ, List.getElem?_cons_zero]); rfl) (by rfl) ?_ (by exact hHeld) ?_
  rotate_left
  · (intro wq hSw; (try dsimp only at hSw); go_simp; (try with_reducible rfl))
  (try simp only [Act.put, List.setIfInBounds_toArray, List.set_cons_zero, List.set_cons_succ])
  refine t_takeW (i := 41) (v := ?_) (by (simp only [List.getElem?_toArray, List.getElem?_cons_succ, List.getElem?_cons_zero]); rfl) (by rfl) ?_ (by exact hHeld) ?_
  rotate_left
  · (intro wq hSw; (try dsimp only at hSw); go_simp; (try with_reducible rfl))
  (try simp only [Act.put, List.setIfInBounds_toArray, List.set_cons_zero, List.set_cons_succ])
  refine t_takeW (i := 42) (v := ?_) (by (simp only [List.getElem?_toArray, List.getElem?_cons_succ, List.getElem?_cons_zero]); rfl) (by rfl) ?_ (by exact hHeld) ?_
  rotate_left
  · (intro wq hSw; (try dsimp only at hSw); go_simp; (try with_reducible rfl))
  (try simp only [Act.put, List.setIfInBounds_toArray, List.set_cons_zero, List.set_cons_succ])
  refine t_takeW (i := 43) (v := ?_) (by (simp only [List.getElem?_toArray, List.getElem?_cons_succ, List.getElem?_cons_zero]); rfl) (by rfl) ?_ (by exact hHeld) ?_
  rotate_left
  · (intro wq hSw; (try dsimp only at hSw); go_simp; (try with_reducible rfl))
  (try simp only [Act.put, List.setIfInBounds_toArray, List.set_cons_zero, List.set_cons_succ])
  refine t_takeW (i := 44) (v := ?_) (by (simp only [List.getElem?_toArray, List.getElem?_cons_succ, List.getElem?_cons_zero]); rfl) (by rfl) ?_ (by exact hHeld) ?_
  rotate_left
  · (intro wq hSw; (try dsimp only at hSw); go_simp; (try with_reducible rfl))
  (try simp only [Act.put, List.setIfInBounds_toArray, List.set_cons_zero, List.set_cons_succ])
  refine t_takeW (i := 45) (v := ?_) (by (simp only [List.getElem?_toArray, List.getElem?_cons_succ, List.getElem?_cons_zero]); rfl) (by rfl) ?_ (by exact hHeld) ?_
  rotate_left
  · (intro wq hSw; (try dsimp only at hSw); go_simp; (try with_reducible rfl))
  (try simp only [Act.put, List.setIfInBounds_toArray, List.set_cons_zero, List.set_cons_succ])
  refine t_takeW (i := 46) (v := ?_) (by (simp only [List.getElem?_toArray, List.getElem?_cons_succ, List.getElem?_cons_zero]); rfl) (by rfl) ?_ (by exact hHeld) ?_
  rotate_left
  · (intro wq hSw; (try dsimp only at hSw); go_simp; (try with_reducible rfl))
  (try simp only [Act.put, List.setIfInBounds_toArray, List.set_cons_zero, List.set_cons_succ])
  refine t_takeW (i := 47) (v := ?_) (by (simp only [List.getElem?_toArray, List.getElem?_cons_succ, List.getElem?_cons_zero]); rfl) (by rfl) ?_ (by exact hHeld) ?_
  rotate_left
  · (intro wq hSw; (try dsimp only at hSw); go_simp; (try with_reducible rfl))
  (try simp only [Act.put, List.setIfInBounds_toArray, List.set_cons_zero, List.set_cons_succ])
  refine t_takeW (i := 48) (v := ?_) (by (simp only [List.getElem?_toArray, List.getElem?_cons_succ, List.getElem?_cons_zero]); rfl) (by rfl) ?_ (by exact hHeld) ?_
  rotate_left
  · (intro wq hSw; (try dsimp only at hSw); go_simp; (try with_reducible rfl))
  (try simp only [Act.put, List.setIfInBounds_toArray, List.set_cons_zero, List.set_cons_succ])
  refine t_takeW (i := 49) (v := ?_) (by (simp only [List.getElem?_toArray, List.getElem?_cons_succ, List.getElem?_cons_zero]); rfl) (by rfl) ?_ (by exact hHeld) ?_
  rotate_left
  · (intro wq hSw; (try dsimp only at hSw); go_simp; (try with_reducible rfl))
  (try simp only [Act.put, List.setIfInBounds_toArray, List.set_cons_zero, List.set_cons_succ])
  refine t_takeW (i := 50) (v := .agg #[.int .i64 exSheet.lines, .slice A4 exSheet.kept.length c4]) (by (simp only [List.getElem?_toArray, List.getElem?_cons_succ, List.getElem?_cons_zero]); rfl) (by rfl) ?_ (by exact hHeld) ?_
  · (intro wq hSw; have e0 := hSw.1.cell 0; have e1 := hSw.1.cell 1; simp at e0 e1; go_simp)
  (try simp only [Act.put, List.setIfInBounds_toArray, List.set_cons_zero, List.set_cons_succ])
  refine t_one (i := 51) (by (simp only [List.getElem?_toArray, List.getElem?_cons_succ, List.getElem?_cons_zero]); rfl) ?_
  ((refine q_callG (by rfl) (Sheet_any _) (by go_simp) ?_; rintro e Wc ⟨vs, rfl, hSh, hEx⟩; refine ⟨_, rfl, ?_⟩; (try replace hE := Ext.trans hE hEx); (try replace hC := hC.ext hEx); (try replace hB4 := hB4.ext hEx); (try replace hK4 := hK4.ext hEx); (try replace h10 := h10.ext hEx); (try replace h14 := h14.ext hEx); (try replace h16 := h16.ext hEx); (try replace hB20 := hB20.ext hEx); (try replace hK20 := hK20.ext hEx); (try replace hIb := hIb.ext hEx); (try replace hIc := hIc.ext hEx)))
  clear hHeld; refine t_next ?_ (fun hHeld => ?_)
  · (first | exact True.intro | ((try dsimp only); (repeat' apply And.intro) <;> first | assumption | (refine Ext.cell_some (Ext.todrew (Ext.refl _)) ?_; assumption)))
  (try simp only [Act.put, List.setIfInBounds_toArray, List.set_cons_zero, List.set_cons_succ])
  refine t_one (i := 52) (by (simp only [List.getElem?_toArray, List.getElem?_cons_succ, List.getElem?_cons_zero]); rfl) ?_
  ((refine q_callG (by rfl) (Sheets_ex _ _ _ (SheetV.of hK4) hSh) (by go_simp) ?_; rintro e Wc ⟨rfl, hEx⟩; refine ⟨_, rfl, ?_⟩; (try replace hE := Ext.trans hE hEx); (try replace hC := hC.ext hEx); (try replace hSh := hSh.ext hEx); (try replace hB4 := hB4.ext hEx); (try replace hK4 := hK4.ext hEx); (try replace h10 := h10.ext hEx); (try replace h14 := h14.ext hEx); (try replace h16 := h16.ext hEx); (try replace hB20 := hB20.ext hEx); (try replace hK20 := hK20.ext hEx); (try replace hIb := hIb.ext hEx); (try replace hIc := hIc.ext hEx)))
  clear hHeld; refine t_next ?_ (fun hHeld => ?_)
  · (first | exact True.intro | ((try dsimp only); (repeat' apply And.intro) <;> first | assumption | (refine Ext.cell_some (Ext.todrew (Ext.refl _)) ?_; assumption)))
  (try simp only [Act.put, List.setIfInBounds_toArray, List.set_cons_zero, List.set_cons_succ])
  refine t_takeW (i := 53) (v := ?_) (by (simp only [List.getElem?_toArray, List.getElem?_cons_succ, List.getElem?_cons_zero]); rfl) (by rfl) ?_ (by exact hHeld) ?_
  rotate_left
  · (intro wq hSw; (try dsimp only at hSw); go_simp; (try with_reducible rfl))
  (try simp only [Act.put, List.setIfInBounds_toArray, List.set_cons_zero, List.set_cons_succ])
  refine t_takeW (i := 54) (v := ?_) (by (simp only [List.getElem?_toArray, List.getElem?_cons_succ, List.getElem?_cons_zero]); rfl) (by rfl) ?_ (by exact hHeld) ?_
  rotate_left
  · (intro wq hSw; (try dsimp only at hSw); go_simp; (try with_reducible rfl))
  (try simp only [Act.put, List.setIfInBounds_toArray, List.set_cons_zero, List.set_cons_succ])
  refine t_takeW (i := 55) (v := ?_) (by (simp only [List.getElem?_toArray, List.getElem?_cons_succ, List.getElem?_cons_zero]); rfl) (by rfl) ?_ (by exact hHeld) ?_
  rotate_left
  · (intro wq hSw; (try dsimp only at hSw); go_simp; (try with_reducible rfl))
  (try simp only [Act.put, List.setIfInBounds_toArray, List.set_cons_zero, List.set_cons_succ])
  refine t_takeW (i := 56) (v := ?_) (by (simp only [List.getElem?_toArray, List.getElem?_cons_succ, List.getElem?_cons_zero]); rfl) (by rfl) ?_ (by exact hHeld) ?_
  rotate_left
  · (intro wq hSw; (try dsimp only at hSw); go_simp; (try with_reducible rfl))
  (try simp only [Act.put, List.setIfInBounds_toArray, List.set_cons_zero, List.set_cons_succ])
  refine t_takeW (i := 57) (v := ?_) (by (simp only [List.getElem?_toArray, List.getElem?_cons_succ, List.getElem?_cons_zero]); rfl) (by rfl) ?_ (by exact hHeld) ?_
  rotate_left
  · (intro wq hSw; (try dsimp only at hSw); go_simp; (try with_reducible rfl))
  (try simp only [Act.put, List.setIfInBounds_toArray, List.set_cons_zero, List.set_cons_succ])
  refine t_takeW (i := 58) (v := ?_) (by (simp only [List.getElem?_toArray, List.getElem?_cons_succ, List.getElem?_cons_zero]); rfl) (by rfl) ?_ (by exact hHeld) ?_
  rotate_left
  · (intro wq hSw; (try dsimp only at hSw); go_simp; (try with_reducible rfl))
  (try simp only [Act.put, List.setIfInBounds_toArray, List.set_cons_zero, List.set_cons_succ])
  refine t_takeW (i := 59) (v := ?_) (by (simp only [List.getElem?_toArray, List.getElem?_cons_succ, List.getElem?_cons_zero]); rfl) (by rfl) ?_ (by exact hHeld) ?_
  rotate_left
  · (intro wq hSw; (try dsimp only at hSw); go_simp; (try with_reducible rfl))
  (try simp only [Act.put, List.setIfInBounds_toArray, List.set_cons_zero, List.set_cons_succ])
  refine t_takeW (i := 60) (v := ?_) (by (simp only [List.getElem?_toArray, List.getElem?_cons_succ, List.getElem?_cons_zero]); rfl) (by rfl) ?_ (by exact hHeld) ?_
  rotate_left
  · (intro wq hSw; (try dsimp only at hSw); go_simp; (try with_reducible rfl))
  (try simp only [Act.put, List.setIfInBounds_toArray, List.set_cons_zero, List.set_cons_succ])
  refine t_takeW (i := 61) (v := ?_) (by (simp only [List.getElem?_toArray, List.getElem?_cons_succ, List.getElem?_cons_zero]); rfl) (by rfl) ?_ (by exact hHeld) ?_
  rotate_left
  · (intro wq hSw; (try dsimp only at hSw); go_simp; (try with_reducible rfl))
  (try simp only [Act.put, List.setIfInBounds_toArray, List.set_cons_zero, List.set_cons_succ])
  refine t_takeW (i := 62) (v := ?_) (by (simp only [List.getElem?_toArray, List.getElem?_cons_succ, List.getElem?_cons_zero]); rfl) (by rfl) ?_ (by exact hHeld) ?_
  rotate_left
  · (intro wq hSw; (try dsimp only at hSw); go_simp; (try with_reducible rfl))
  (try simp only [Act.put, List.setIfInBounds_toArray, List.set_cons_zero, List.set_cons_succ])
  refine t_takeW (i := 63) (v := ?_) (by (simp only [List.getElem?_toArray, List.getElem?_cons_succ, List.getElem?_cons_zero]); rfl) (by rfl) ?_ (by exact hHeld) ?_
  rotate_left
  · (intro wq hSw; (try dsimp only at hSw); go_simp; (try with_reducible rfl))
  (try simp only [Act.put, List.setIfInBounds_toArray, List.set_cons_zero, List.set_cons_succ])
  refine t_one (i := 64) (by (simp only [List.getElem?_toArray, List.getElem?_cons_succ, List.getElem?_cons_zero]); rfl) ?_
  ((refine q_bsliceG (by rfl) (e := 3) (cs := #[.int .i64 0, .int .i64 1, .int .i64 3, .int .i64 1]) ?_ ?_; (simp [Act.eval]; exact bsI4 _ 0 1 3 1); intro Wb gb hEb hBb hgb; (try replace hE := Ext.trans hE hEb); (try replace hC := hC.ext hEb); (try replace hSh := hSh.ext hEb); (try replace hB4 := hB4.ext hEb); (try replace hK4 := hK4.ext hEb); (try replace h10 := h10.ext hEb); (try replace h14 := h14.ext hEb); (try replace h16 := h16.ext hEb); (try replace hB20 := hB20.ext hEb); (try replace hK20 := hK20.ext hEb); (try replace hIc := hIc.ext hEb); have hIb := ints_blk (xs := [0, 1, 3, 1]) hBb (by decide); clear hBb hgb))
  clear hHeld; refine t_next ?_ (fun hHeld => ?_)
  · (first | exact True.intro | ((try dsimp only); (repeat' apply And.intro) <;> first | assumption | (refine Ext.cell_some (Ext.todrew (Ext.refl _)) ?_; assumption)))
  (try simp only [Act.put, List.setIfInBounds_toArray, List.set_cons_zero, List.set_cons_succ])
  refine t_one (i := 65) (by (simp only [List.getElem?_toArray, List.getElem?_cons_succ, List.getElem?_cons_zero]); rfl) ?_
  ((refine q_callG (by rfl) (Ints_ex _ _ _ _ h10 hIb) (by go_simp) ?_; rintro e Wc ⟨rfl, hEx⟩; refine ⟨_, rfl, ?_⟩; (try replace hE := Ext.trans hE hEx); (try replace hC := hC.ext hEx); (try replace hSh := hSh.ext hEx); (try replace hB4 := hB4.ext hEx); (try replace hK4 := hK4.ext hEx); (try replace h10 := h10.ext hEx); (try replace h14 := h14.ext hEx); (try replace h16 := h16.ext hEx); (try replace hB20 := hB20.ext hEx); (try replace hK20 := hK20.ext hEx); (try replace hIb := hIb.ext hEx); (try replace hIc := hIc.ext hEx)))
  clear hHeld; refine t_next ?_ (fun hHeld => ?_)
  · (first | exact True.intro | ((try dsimp only); (repeat' apply And.intro) <;> first | assumption | (refine Ext.cell_some (Ext.todrew (Ext.refl _)) ?_; assumption)))
  (try simp only [Act.put, List.setIfInBounds_toArray, List.set_cons_zero, List.set_cons_succ])
  refine t_takeW (i := 66) (v := ?_) (by (simp only [List.getElem?_toArray, List.getElem?_cons_succ, List.getElem?_cons_zero]); rfl) (by rfl) ?_ (by exact hHeld) ?_
  rotate_left
  · (intro wq hSw; (try dsimp only at hSw); go_simp; (try with_reducible rfl))
  (try simp only [Act.put, List.setIfInBounds_toArray, List.set_cons_zero, List.set_cons_succ])
  refine t_takeW (i := 67) (v := ?_) (by (simp only [List.getElem?_toArray, List.getElem?_cons_succ, List.getElem?_cons_zero]); rfl) (by rfl) ?_ (by exact hHeld) ?_
  rotate_left
  · (intro wq hSw; (try dsimp only at hSw); go_simp; (try with_reducible rfl))
  (try simp only [Act.put, List.setIfInBounds_toArray, List.set_cons_zero, List.set_cons_succ])
  refine t_takeW (i := 68) (v := ?_) (by (simp only [List.getElem?_toArray, List.getElem?_cons_succ, List.getElem?_cons_zero]); rfl) (by rfl) ?_ (by exact hHeld) ?_
  rotate_left
  · (intro wq hSw; (try dsimp only at hSw); go_simp; (try with_reducible rfl))
  (try simp only [Act.put, List.setIfInBounds_toArray, List.set_cons_zero, List.set_cons_succ])
  refine t_takeW (i := 69) (v := ?_) (by (simp only [List.getElem?_toArray, List.getElem?_cons_succ, List.getElem?_cons_zero]); rfl) (by rfl) ?_ (by exact hHeld) ?_
  rotate_left
  · (intro wq hSw; (try dsimp only at hSw); go_simp; (try with_reducible rfl))
  (try simp only [Act.put, List.setIfInBounds_toArray, List.set_cons_zero, List.set_cons_succ])
  refine t_takeW (i := 70) (v := ?_) (by (simp only [List.getElem?_toArray, List.getElem?_cons_succ, List.getElem?_cons_zero]); rfl) (by rfl) ?_ (by exact hHeld) ?_
  rotate_left
  · (intro wq hSw; (try dsimp only at hSw); go_simp; (try with_reducible rfl))
  (try simp only [Act.put, List.setIfInBounds_toArray, List.set_cons_zero, List.set_cons_succ])
  refine t_takeW (i := 71) (v := ?_) (by (simp only [List.getElem?_toArray, List.getElem?_cons_succ, List.getElem?_cons_zero]); rfl) (by rfl) ?_ (by exact hHeld) ?_
  rotate_left
  · (intro wq hSw; (try dsimp only at hSw); go_simp; (try with_reducible rfl))
  (try simp only [Act.put, List.setIfInBounds_toArray, List.set_cons_zero, List.set_cons_succ])
  refine t_one (i := 72) (by (simp only [List.getElem?_toArray, List.getElem?_cons_succ, List.getElem?_cons_zero]); rfl) ?_
  ((refine q_bsliceG (by rfl) (e := 3) (cs := #[.int .i64 4]) ?_ ?_; (simp [Act.eval]; exact bsI1 _ 4); intro Wb gb hEb hBb hgb; (try replace hE := Ext.trans hE hEb); (try replace hC := hC.ext hEb); (try replace hSh := hSh.ext hEb); (try replace hB4 := hB4.ext hEb); (try replace hK4 := hK4.ext hEb); (try replace h10 := h10.ext hEb); (try replace h14 := h14.ext hEb); (try replace h16 := h16.ext hEb); (try replace hB20 := hB20.ext hEb); (try replace hK20 := hK20.ext hEb); (try replace hIc := hIc.ext hEb); have hIb := ints_blk (xs := [4]) hBb (by decide); clear hBb hgb))
  clear hHeld; refine t_next ?_ (fun hHeld => ?_)
  · (first | exact True.intro | ((try dsimp only); (repeat' apply And.intro) <;> first | assumption | (refine Ext.cell_some (Ext.todrew (Ext.refl _)) ?_; assumption)))
  (try simp only [Act.put, List.setIfInBounds_toArray, List.set_cons_zero, List.set_cons_succ])
  refine t_one (i := 73) (by (simp only [List.getElem?_toArray, List.getElem?_cons_succ, List.getElem?_cons_zero]); rfl) ?_
  ((refine q_callG (by rfl) (Ints_ex _ _ _ _ h14 hIb) (by go_simp) ?_; rintro e Wc ⟨rfl, hEx⟩; refine ⟨_, rfl, ?_⟩; (try replace hE := Ext.trans hE hEx); (try replace hC := hC.ext hEx); (try replace hSh := hSh.ext hEx); (try replace hB4 := hB4.ext hEx); (try replace hK4 := hK4.ext hEx); (try replace h10 := h10.ext hEx); (try replace h14 := h14.ext hEx); (try replace h16 := h16.ext hEx); (try replace hB20 := hB20.ext hEx); (try replace hK20 := hK20.ext hEx); (try replace hIb := hIb.ext hEx); (try replace hIc := hIc.ext hEx)))
  clear hHeld; refine t_next ?_ (fun hHeld => ?_)
  · (first | exact True.intro | ((try dsimp only); (repeat' apply And.intro) <;> first | assumption | (refine Ext.cell_some (Ext.todrew (Ext.refl _)) ?_; assumption)))
  (try simp only [Act.put, List.setIfInBounds_toArray, List.set_cons_zero, List.set_cons_succ])
  refine t_takeW (i := 74) (v := ?_) (by (simp only [List.getElem?_toArray, List.getElem?_cons_succ, List.getElem?_cons_zero]); rfl) (by rfl) ?_ (by exact hHeld) ?_
  rotate_left
  · (intro wq hSw; (try dsimp only at hSw); go_simp; (try with_reducible rfl))
  (try simp only [Act.put, List.setIfInBounds_toArray, List.set_cons_zero, List.set_cons_succ])
  refine t_takeW (i := 75) (v := ?_) (by (simp only [List.getElem?_toArray, List.getElem?_cons_succ, List.getElem?_cons_zero]); rfl) (by rfl) ?_ (by exact hHeld) ?_
  rotate_left
  · (intro wq hSw; (try dsimp only at hSw); go_simp; (try with_reducible rfl))
  (try simp only [Act.put, List.setIfInBounds_toArray, List.set_cons_zero, List.set_cons_succ])
  refine t_takeW (i := 76) (v := ?_) (by (simp only [List.getElem?_toArray, List.getElem?_cons_succ, List.getElem?_cons_zero]); rfl) (by rfl) ?_ (by exact hHeld) ?_
  rotate_left
  · (intro wq hSw; (try dsimp only at hSw); go_simp; (try with_reducible rfl))
  (try simp only [Act.put, List.setIfInBounds_toArray, List.set_cons_zero, List.set_cons_succ])
  refine t_one (i := 77) (by (simp only [List.getElem?_toArray, List.getElem?_cons_succ, List.getElem?_cons_zero]); rfl) ?_
  ((refine q_bsliceG (by rfl) (e := 3) (cs := #[.int .i64 2]) ?_ ?_; (simp [Act.eval]; exact bsI1 _ 2); intro Wb gb hEb hBb hgb; (try replace hE := Ext.trans hE hEb); (try replace hC := hC.ext hEb); (try replace hSh := hSh.ext hEb); (try replace hB4 := hB4.ext hEb); (try replace hK4 := hK4.ext hEb); (try replace h10 := h10.ext hEb); (try replace h14 := h14.ext hEb); (try replace h16 := h16.ext hEb); (try replace hB20 := hB20.ext hEb); (try replace hK20 := hK20.ext hEb); (try replace hIc := hIc.ext hEb); have hIb := ints_blk (xs := [2]) hBb (by decide); clear hBb hgb))
  clear hHeld; refine t_next ?_ (fun hHeld => ?_)
  · (first | exact True.intro | ((try dsimp only); (repeat' apply And.intro) <;> first | assumption | (refine Ext.cell_some (Ext.todrew (Ext.refl _)) ?_; assumption)))
  (try simp only [Act.put, List.setIfInBounds_toArray, List.set_cons_zero, List.set_cons_succ])
  refine t_one (i := 78) (by (simp only [List.getElem?_toArray, List.getElem?_cons_succ, List.getElem?_cons_zero]); rfl) ?_
  ((refine q_callG (by rfl) (Ints_ex _ _ _ _ h16 hIb) (by go_simp) ?_; rintro e Wc ⟨rfl, hEx⟩; refine ⟨_, rfl, ?_⟩; (try replace hE := Ext.trans hE hEx); (try replace hC := hC.ext hEx); (try replace hSh := hSh.ext hEx); (try replace hB4 := hB4.ext hEx); (try replace hK4 := hK4.ext hEx); (try replace h10 := h10.ext hEx); (try replace h14 := h14.ext hEx); (try replace h16 := h16.ext hEx); (try replace hB20 := hB20.ext hEx); (try replace hK20 := hK20.ext hEx); (try replace hIb := hIb.ext hEx); (try replace hIc := hIc.ext hEx)))
  clear hHeld; refine t_next ?_ (fun hHeld => ?_)
  · (first | exact True.intro | ((try dsimp only); (repeat' apply And.intro) <;> first | assumption | (refine Ext.cell_some (Ext.todrew (Ext.refl _)) ?_; assumption)))
  (try simp only [Act.put, List.setIfInBounds_toArray, List.set_cons_zero, List.set_cons_succ])
  refine t_takeW (i := 79) (v := ?_) (by (simp only [List.getElem?_toArray, List.getElem?_cons_succ, List.getElem?_cons_zero]); rfl) (by rfl) ?_ (by exact hHeld) ?_
  rotate_left
  · (intro wq hSw; (try dsimp only at hSw); go_simp; (try with_reducible rfl))
  (try simp only [Act.put, List.setIfInBounds_toArray, List.set_cons_zero, List.set_cons_succ])
  refine t_takeW (i := 80) (v := ?_) (by (simp only [List.getElem?_toArray, List.getElem?_cons_succ, List.getElem?_cons_zero]); rfl) (by rfl) ?_ (by exact hHeld) ?_
  rotate_left
  · (intro wq hSw; (try dsimp only at hSw); go_simp; (try with_reducible rfl))
  (try simp only [Act.put, List.setIfInBounds_toArray, List.set_cons_zero, List.set_cons_succ])
  refine t_takeW (i := 81) (v := ?_) (by (simp only [List.getElem?_toArray, List.getElem?_cons_succ, List.getElem?_cons_zero]); rfl) (by rfl) ?_ (by exact hHeld) ?_
  rotate_left
  · (intro wq hSw; (try dsimp only at hSw); go_simp; (try with_reducible rfl))
  (try simp only [Act.put, List.setIfInBounds_toArray, List.set_cons_zero, List.set_cons_succ])
  refine t_takeW (i := 82) (v := .bool true) (by (simp only [List.getElem?_toArray, List.getElem?_cons_succ, List.getElem?_cons_zero]); rfl) (by rfl) ?_ (by exact hHeld) ?_
  · (intro wq _; kernel_rfl)
  (try simp only [Act.put, List.setIfInBounds_toArray, List.set_cons_zero, List.set_cons_succ])
  refine t_takeW (i := 83) (v := ?_) (by (simp only [List.getElem?_toArray, List.getElem?_cons_succ, List.getElem?_cons_zero]); rfl) (by rfl) ?_ (by exact hHeld) ?_
  rotate_left
  · (intro wq hSw; (try dsimp only at hSw); go_simp; (try with_reducible rfl))
  (try simp only [Act.put, List.setIfInBounds_toArray, List.set_cons_zero, List.set_cons_succ])
  refine t_takeW (i := 84) (v := ?_) (by (simp only [List.getElem?_toArray, List.getElem?_cons_succ, List.getElem?_cons_zero]); rfl) (by rfl) ?_ (by exact hHeld) ?_
  rotate_left
  · (intro wq hSw; (try dsimp only at hSw); go_simp; (try with_reducible rfl))
  (try simp only [Act.put, List.setIfInBounds_toArray, List.set_cons_zero, List.set_cons_succ])
  refine t_takeW (i := 85) (v := .agg #[.int .i64 exSheet.lines, .slice A20 exSheet.kept.length c20]) (by (simp only [List.getElem?_toArray, List.getElem?_cons_succ, List.getElem?_cons_zero]); rfl) (by rfl) ?_ (by exact hHeld) ?_
  · (intro wq hSw; have e0 := hSw.2.cell 0; have e1 := hSw.2.cell 1; simp at e0 e1; go_simp)
  (try simp only [Act.put, List.setIfInBounds_toArray, List.set_cons_zero, List.set_cons_succ])
  refine t_one (i := 86) (by (simp only [List.getElem?_toArray, List.getElem?_cons_succ, List.getElem?_cons_zero]); rfl) ?_
  ((refine q_callG (by rfl) (Sheet_any _) (by go_simp) ?_; rintro e Wc ⟨vs, rfl, hSh, hEx⟩; refine ⟨_, rfl, ?_⟩; (try replace hE := Ext.trans hE hEx); (try replace hC := hC.ext hEx); (try replace hB4 := hB4.ext hEx); (try replace hK4 := hK4.ext hEx); (try replace h10 := h10.ext hEx); (try replace h14 := h14.ext hEx); (try replace h16 := h16.ext hEx); (try replace hB20 := hB20.ext hEx); (try replace hK20 := hK20.ext hEx); (try replace hIb := hIb.ext hEx); (try replace hIc := hIc.ext hEx)))
  clear hHeld; refine t_next ?_ (fun hHeld => ?_)
  · (first | exact True.intro | ((try dsimp only); (repeat' apply And.intro) <;> first | assumption | (refine Ext.cell_some (Ext.todrew (Ext.refl _)) ?_; assumption)))
  (try simp only [Act.put, List.setIfInBounds_toArray, List.set_cons_zero, List.set_cons_succ])
  refine t_one (i := 87) (by (simp only [List.getElem?_toArray, List.getElem?_cons_succ, List.getElem?_cons_zero]); rfl) ?_
  ((refine q_callG (by rfl) (Sheets_ex _ _ _ (SheetV.of hK20) hSh) (by go_simp) ?_; rintro e Wc ⟨rfl, hEx⟩; refine ⟨_, rfl, ?_⟩; (try replace hE := Ext.trans hE hEx); (try replace hC := hC.ext hEx); (try replace hSh := hSh.ext hEx); (try replace hB4 := hB4.ext hEx); (try replace hK4 := hK4.ext hEx); (try replace h10 := h10.ext hEx); (try replace h14 := h14.ext hEx); (try replace h16 := h16.ext hEx); (try replace hB20 := hB20.ext hEx); (try replace hK20 := hK20.ext hEx); (try replace hIb := hIb.ext hEx); (try replace hIc := hIc.ext hEx)))
  clear hHeld; refine t_next ?_ (fun hHeld => ?_)
  · (first | exact True.intro | ((try dsimp only); (repeat' apply And.intro) <;> first | assumption | (refine Ext.cell_some (Ext.todrew (Ext.refl _)) ?_; assumption)))
  (try simp only [Act.put, List.setIfInBounds_toArray, List.set_cons_zero, List.set_cons_succ])
  refine t_takeW (i := 88) (v := ?_) (by (simp only [List.getElem?_toArray, List.getElem?_cons_succ, List.getElem?_cons_zero]); rfl) (by rfl) ?_ (by exact hHeld) ?_
  rotate_left
  · (intro wq hSw; (try dsimp only at hSw); go_simp; (try with_reducible rfl))
  (try simp only [Act.put, List.setIfInBounds_toArray, List.set_cons_zero, List.set_cons_succ])
  refine t_takeW (i := 89) (v := ?_) (by (simp only [List.getElem?_toArray, List.getElem?_cons_succ, List.getElem?_cons_zero]); rfl) (by rfl) ?_ (by exact hHeld) ?_
  rotate_left
  · (intro wq hSw; (try dsimp only at hSw); go_simp; (try with_reducible rfl))
  (try simp only [Act.put, List.setIfInBounds_toArray, List.set_cons_zero, List.set_cons_succ])
  refine t_done ?_
  go_wp2
  go_ret
  exact ⟨rfl, hE⟩
end Go.Bp
end
section
set_option maxRecDepth 100000
set_option linter.unusedSimpArgs false
set_option linter.unusedVariables false
namespace Go.Bp
open Go.RowKit Go.Proofs
theorem sheets_self (s : Sheet) : sheetsEq s s = true := by simp [sheetsEq]; intro x hx; simp [List.getElem?_eq_getElem hx]
theorem Sheets_same (av bv : Value) (s : Sheet) (w : World) (ha : SheetV w av s) (hb : SheetV w bv s) : Calls Tryz.prog 27 #[av, bv] w fun e w' => e = .returned (.bool true) ∧ Ext w w' := by
  have := Sheets_any av bv s s w ha hb; rwa [sheets_self] at this
end Go.Bp
end
section
/- The arguments of the rows opened: what is read is a code, a sheet, a list. -/
set_option maxRecDepth 100000
namespace Go.Bp
open Go.RowKit Go.Proofs Go.ChangeShapes Go.WideShapes Go.ChangeAt
section
variable {H : Type} {enc : TypeId × Value → H} {w : World} {b0 : Nat}
theorem cells_flat {α : Type} (f : α → List Value) (size : Nat) (hf : ∀ a, (f a).length = size) {a : Addr} : ∀ (xs : List α) (i0 : Nat),
    (∀ (i : Nat) (hi : i < xs.length), Cells w (a.add ((i0 + i) * size)) (f xs[i])) → Cells w (a.add (i0 * size)) (xs.flatMap f)
  | [], i0, _ => by simpa using Cells.nil w _
  | x :: xs, i0, h => by
    have h0 := h 0 (by simp)
    have ih := cells_flat f size hf (a := a) xs (i0 + 1) (fun i hi => by
      have := h (i + 1) (by simpa using hi)
      rw [show i0 + 1 + i = i0 + (i + 1) by omega]
      simpa using this)
    intro j u hu
    simp only [List.flatMap_cons] at hu
    by_cases hj : j < size
    · rw [List.getElem?_append_left (by rw [hf]; exact hj)] at hu
      have := h0 j u (by simpa using hu)
      simpa using this
    · rw [List.getElem?_append_right (by rw [hf]; omega), hf] at hu
      have := ih (j - size) u hu
      rw [add_of_add] at this ⊢
      rwa [show (i0 + 1) * size + (j - size) = i0 * size + j by rw [Nat.add_mul]; omega] at this
theorem open_flat {α : Type} {t e : TypeId} {size fuel : Nat} {cs : List Value} {x : DataW H × List MemPlace} (f : α → List Value) (good : α → Prop) (hf : ∀ a, (f a).length = size)
    (ht : Tryz.prog.underlying t = some (.slice e)) (hc : Tryz.prog.cellsOf e = size)
    (hel : ∀ (n : Nat) (c1 : List Value) (y : DataW H × List MemPlace), DataW.trod enc Tryz.prog w 0 (fun _ => true) true n e c1 = some y → ∃ a, c1 = f a ∧ good a)
    (h : DataW.trod enc Tryz.prog w 0 (fun _ => true) true fuel t cs = some x) : ∃ (v : Value) (xs : List α), cs = [v] ∧ Sl w size v xs.length (xs.flatMap f) ∧ ∀ a ∈ xs, good a := by
  rcases DataW.trod_slice ht h with ⟨rfl, _⟩ | ⟨ad, len, cap, elems, rest, n, _, rfl, _, _, hl, hm, hlen, hE, _, _⟩
  · exact ⟨_, [], rfl, Sl.none_ w size, by simp⟩
  have each : ∀ i : Fin len, ∃ a : α, Cells w (ad.add (i.1 * size)) (f a) ∧ good a := by
    rintro ⟨i, hi⟩
    have h1 := hE i hi
    rw [List.getElem?_eq_getElem (by omega), Option.bind_eq_some_iff, hc] at h1
    obtain ⟨c1, hc1, hy⟩ := h1
    obtain ⟨a, rfl, hg⟩ := hel _ _ _ hy
    obtain ⟨_, h3, h4⟩ := World.cells?_some hc1
    refine ⟨a, fun j u hu => ?_, hg⟩
    rw [h4 j (by have := (List.getElem?_eq_some_iff.1 hu).1; omega)]
    exact hu
  obtain ⟨g, hg⟩ := Classical.axiomOfChoice each
  refine ⟨_, List.ofFn g, rfl, ?_, ?_⟩
  · refine ⟨some ad, cap, by simp, by simpa using hl, hm, ?_, fun _ => ⟨ad, rfl, ?_⟩⟩
    · have : ∀ l : List α, (l.flatMap f).length = l.length * size := by
        intro l
        induction l with
        | nil => simp
        | cons y ys ih => simp [hf, ih, Nat.add_mul]; omega
      exact this _
    · have := cells_flat (w := w) f size hf (a := ad) (List.ofFn g) 0 (fun i hi => by
        have hi' : i < len := by simpa using hi
        have := (hg ⟨i, hi'⟩).1
        simpa using this)
      simpa [Addr.add] using this
  · intro a ha
    obtain ⟨i, rfl⟩ := List.mem_ofFn.1 ha
    exact (hg i).2
theorem encI_flat (xs : List Int) : xs.flatMap (fun n => [Value.int .i64 n]) = encI xs := by induction xs <;> simp_all [encI]
theorem encS_flat (xs : List ByteArray) : xs.flatMap (fun n => [Value.string n]) = encS xs := by induction xs <;> simp_all [encS]
theorem encF_flat (xs : List Fault) : xs.flatMap (fun f => [Value.string f.name, .int .i64 f.points, .int .i64 f.limit]) = encF xs := by induction xs <;> simp_all [encF]
theorem encL_flat (xs : List Line) : xs.flatMap (fun x => [Value.int .i64 x.no, .int .i64 x.what, .int .i64 x.sum]) = encL xs := by induction xs <;> simp_all [encL]
theorem cellsOf3 : Tryz.prog.cellsOf 3 = 1 := by kernel_rfl
theorem cellsOf9 : Tryz.prog.cellsOf 9 = 1 := by kernel_rfl
theorem cellsOf74 : Tryz.prog.cellsOf 74 = 3 := by kernel_rfl
theorem cellsOf99 : Tryz.prog.cellsOf 99 = 3 := by kernel_rfl
theorem cellsOf25 : Tryz.prog.cellsOf 25 = 3 := by kernel_rfl
theorem cellsOf39 : Tryz.prog.cellsOf 39 = 2 := by kernel_rfl
theorem cellsOf22 : Tryz.prog.cellsOf 22 = 1 := by kernel_rfl
theorem cellsOf23 : Tryz.prog.cellsOf 23 = 1 := by kernel_rfl
theorem cellsOf37 : Tryz.prog.cellsOf 37 = 1 := by kernel_rfl
theorem at_int {n : Nat} {cs : List Value} {x : DataW H × List MemPlace} (h : DataW.trod enc Tryz.prog w 0 (fun _ => true) true n 3 cs = some x) : ∃ k, cs = [.int .i64 k] := by
  obtain ⟨k, h1, _, _⟩ := DataW.trod_int Tryz.underlying3 h; exact ⟨k, h1⟩
theorem at_ints {n : Nat} {cs : List Value} {x : DataW H × List MemPlace} (h : DataW.trod enc Tryz.prog w 0 (fun _ => true) true n 26 cs = some x) : ∃ v xs, cs = [v] ∧ Ints w v xs := by
  obtain ⟨v, xs, h1, h2, _⟩ := open_flat (fun n : Int => [Value.int .i64 n]) (fun _ => True) (fun _ => rfl) Tryz.underlying26 cellsOf3 (fun n c1 y hy => by obtain ⟨k, hk⟩ := at_int hy; exact ⟨k, hk, trivial⟩) h
  rw [encI_flat] at h2; exact ⟨v, xs, h1, h2⟩
theorem at_strs {n : Nat} {cs : List Value} {x : DataW H × List MemPlace} (h : DataW.trod enc Tryz.prog w 0 (fun _ => true) true n 23 cs = some x) : ∃ v xs, cs = [v] ∧ Strs w v xs ∧ ∀ s ∈ xs, s.size ≤ maxLen := by
  obtain ⟨v, xs, h1, h2, h3⟩ := open_flat (fun n : ByteArray => [Value.string n]) (fun s => s.size ≤ maxLen) (fun _ => rfl) Tryz.underlying23 cellsOf9 (fun n c1 y hy => by obtain ⟨k, hk, _, hs⟩ := DataW.trod_string Tryz.underlying9 hy; exact ⟨k, hk, hs⟩) h
  rw [encS_flat] at h2; exact ⟨v, xs, h1, h2, h3⟩
theorem three {c0 c1 c2 : Value} {cs : List Value} (hl : cs.length = 3) (h0 : (cs.drop 0).take 1 = [c0]) (h1 : (cs.drop 1).take 1 = [c1]) (h2 : (cs.drop 2).take 1 = [c2]) : cs = [c0, c1, c2] := by
  match cs, hl with
  | [x, y, z], _ => simp at h0 h1 h2; simp [h0, h1, h2]
theorem at_faults {n : Nat} {cs : List Value} {x : DataW H × List MemPlace} (h : DataW.trod enc Tryz.prog w 0 (fun _ => true) true n 22 cs = some x) : ∃ v xs, cs = [v] ∧ Faults w v xs ∧ ∀ f ∈ xs, f.name.size ≤ maxLen := by
  obtain ⟨v, xs, h1, h2, h3⟩ := open_flat (fun f : Fault => [Value.string f.name, .int .i64 f.points, .int .i64 f.limit]) (fun f => f.name.size ≤ maxLen) (fun _ => rfl) Tryz.underlying22 cellsOf74 (fun n c1 y hy => by
    obtain ⟨xs, m, _, _, hl, hx, hE⟩ := DataW.trod_struct Tryz.underlying74 hy
    rw [cellsOf74] at hl
    have hx3 : xs.length = 3 := hx
    have e0 : DataW.trod enc Tryz.prog w 0 (fun _ => true) true m 9 ((c1.drop 0).take (Tryz.prog.cellsOf 9)) = xs[0]? := hE 0 _ rfl; have e1 : DataW.trod enc Tryz.prog w 0 (fun _ => true) true m 3 ((c1.drop 1).take (Tryz.prog.cellsOf 3)) = xs[1]? := hE 1 _ rfl; have e2 : DataW.trod enc Tryz.prog w 0 (fun _ => true) true m 3 ((c1.drop 2).take (Tryz.prog.cellsOf 3)) = xs[2]? := hE 2 _ rfl
    rw [cellsOf9] at e0; rw [cellsOf3] at e1 e2
    rw [List.getElem?_eq_getElem (by omega)] at e0 e1 e2
    obtain ⟨s, hs, _, hz⟩ := DataW.trod_string Tryz.underlying9 e0
    obtain ⟨p, hp⟩ := at_int e1
    obtain ⟨q, hq⟩ := at_int e2
    exact ⟨⟨s, p, q⟩, three hl hs hp hq, hz⟩) h
  rw [encF_flat] at h2; exact ⟨v, xs, h1, h2, h3⟩
theorem at_lines {n : Nat} {cs : List Value} {x : DataW H × List MemPlace} (h : DataW.trod enc Tryz.prog w 0 (fun _ => true) true n 37 cs = some x) : ∃ v xs, cs = [v] ∧ Lines w v xs := by
  obtain ⟨v, xs, h1, h2, h3⟩ := open_flat (fun f : Line => [Value.int .i64 f.no, .int .i64 f.what, .int .i64 f.sum]) (fun _ => True) (fun _ => rfl) Tryz.underlying37 cellsOf99 (fun n c1 y hy => by
    obtain ⟨xs, m, _, _, hl, hx, hE⟩ := DataW.trod_struct Tryz.underlying99 hy
    rw [cellsOf99] at hl
    have hx3 : xs.length = 3 := hx
    have e0 : DataW.trod enc Tryz.prog w 0 (fun _ => true) true m 3 ((c1.drop 0).take (Tryz.prog.cellsOf 3)) = xs[0]? := hE 0 _ rfl; have e1 : DataW.trod enc Tryz.prog w 0 (fun _ => true) true m 3 ((c1.drop 1).take (Tryz.prog.cellsOf 3)) = xs[1]? := hE 1 _ rfl; have e2 : DataW.trod enc Tryz.prog w 0 (fun _ => true) true m 3 ((c1.drop 2).take (Tryz.prog.cellsOf 3)) = xs[2]? := hE 2 _ rfl
    rw [cellsOf3] at e0 e1 e2
    rw [List.getElem?_eq_getElem (by omega)] at e0 e1 e2
    obtain ⟨s, hs⟩ := at_int e0
    obtain ⟨p, hp⟩ := at_int e1
    obtain ⟨q, hq⟩ := at_int e2
    exact ⟨⟨s, p, q⟩, three hl hs hp hq, trivial⟩) h
  rw [encL_flat] at h2; exact ⟨v, xs, h1, h2⟩
theorem arg_ints {v : Value} {d : DataW H} {p : List MemPlace} (hv : Value.okWide Tryz.prog w .any b0 26 v) (h : DataW.Trod enc Tryz.prog w 0 (fun _ => true) true 26 v d p) : ∃ xs, Ints w v xs := by
  obtain ⟨a, l, c, rfl⟩ := okWide_slice Tryz.underlying26 hv
  obtain ⟨fuel, hf⟩ := h
  obtain ⟨v', xs, h1, h2⟩ := at_ints hf
  simp [Value.cells] at h1
  subst h1; exact ⟨xs, h2⟩
theorem arg_code {v : Value} {d : DataW H} {p : List MemPlace} (hv : Value.okWide Tryz.prog w .any b0 25 v) (h : DataW.Trod enc Tryz.prog w 0 (fun _ => true) true 25 v d p) : ∃ c, CodeV w v c := by
  obtain ⟨cs, rfl, hcs⟩ := okWide_struct Tryz.underlying25 hv
  obtain ⟨fuel, hf⟩ := h
  obtain ⟨xs, m, _, _, hl, hx, hE⟩ := DataW.trod_struct Tryz.underlying25 hf
  rw [cellsOf25] at hl
  have hx3 : xs.length = 3 := hx
  have e0 : DataW.trod enc Tryz.prog w 0 (fun _ => true) true m 22 (((Value.agg cs).cells.toList.drop 0).take (Tryz.prog.cellsOf 22)) = xs[0]? := hE 0 _ rfl; have e1 : DataW.trod enc Tryz.prog w 0 (fun _ => true) true m 23 (((Value.agg cs).cells.toList.drop 1).take (Tryz.prog.cellsOf 23)) = xs[1]? := hE 1 _ rfl; have e2 : DataW.trod enc Tryz.prog w 0 (fun _ => true) true m 3 (((Value.agg cs).cells.toList.drop 2).take (Tryz.prog.cellsOf 3)) = xs[2]? := hE 2 _ rfl
  rw [cellsOf22] at e0; rw [cellsOf23] at e1; rw [cellsOf3] at e2
  rw [List.getElem?_eq_getElem (by omega)] at e0 e1 e2
  obtain ⟨fv, fs, h0, hF, hz⟩ := at_faults e0
  obtain ⟨mv, ms, h1, hM, hy⟩ := at_strs e1
  obtain ⟨al, h2⟩ := at_int e2
  have := three hl h0 h1 h2
  refine ⟨⟨fs, ms, al⟩, fv, mv, ?_, hF, hM, ?_⟩
  · have : cs = #[fv, mv, .int .i64 al] := by apply Array.ext'; simpa [Value.cells] using this
    rw [this]
  · intro s hs
    rcases List.mem_append.1 (show s ∈ fs.map (·.name) ++ ms from hs) with h | h
    · obtain ⟨f, hf, rfl⟩ := List.mem_map.1 h; exact hz f hf
    · exact hy s h
theorem arg_sheet {v : Value} {d : DataW H} {p : List MemPlace} (hv : Value.okWide Tryz.prog w .any b0 39 v) (h : DataW.Trod enc Tryz.prog w 0 (fun _ => true) true 39 v d p) : ∃ s, SheetV w v s := by
  obtain ⟨cs, rfl, hcs⟩ := okWide_struct Tryz.underlying39 hv
  obtain ⟨fuel, hf⟩ := h
  obtain ⟨xs, m, _, _, hl, hx, hE⟩ := DataW.trod_struct Tryz.underlying39 hf
  rw [cellsOf39] at hl
  have hx3 : xs.length = 2 := hx
  have e0 : DataW.trod enc Tryz.prog w 0 (fun _ => true) true m 3 (((Value.agg cs).cells.toList.drop 0).take (Tryz.prog.cellsOf 3)) = xs[0]? := hE 0 _ rfl; have e1 : DataW.trod enc Tryz.prog w 0 (fun _ => true) true m 37 (((Value.agg cs).cells.toList.drop 1).take (Tryz.prog.cellsOf 37)) = xs[1]? := hE 1 _ rfl
  rw [cellsOf3] at e0; rw [cellsOf37] at e1
  rw [List.getElem?_eq_getElem (by omega)] at e0 e1
  obtain ⟨n, h0⟩ := at_int e0
  obtain ⟨kv, ls, h1, hK⟩ := at_lines e1
  refine ⟨⟨n, ls⟩, kv, ?_, hK⟩
  have : cs = #[.int .i64 n, kv] := by
    apply Array.ext'
    have hl' : cs.toList.length = 2 := by simpa [Value.cells] using hl
    have h0' : (cs.toList.drop 0).take 1 = [.int .i64 n] := by simpa [Value.cells] using h0
    have h1' : (cs.toList.drop 1).take 1 = [kv] := by simpa [Value.cells] using h1
    match hcl : cs.toList, hl', h0', h1' with
    | [x, y], _, h0', h1' => simp at h0' h1'; simp [h0', h1']
  rw [this]
end
end Go.Bp
end
section
/- The surroundings: what the rows list, read off the world; the row's wrap with the world's shape. -/
set_option maxRecDepth 100000
namespace Go.Bp
open Go.RowKit Go.Proofs Go.ChangeShapes Go.WideShapes Go.ChangeAt
def listed : List (String × DataW Unit) := Go.Proofs.YthomnkgiaapljaaGreatDoor.Rows.sheetKeepsRow.laid
theorem star_err : "*" ++ "errors.errorString" = "*errors.errorString" := by decide
theorem row192 (u : TypeId) (h : Tryz.prog.typeName? 3 u = some "*errors.errorString") : u = 192 :=
  typeName_ptr_named (nm := "errors.errorString") (by rw [star_err]; kernel_rfl) (by kernel_rfl) (by decide) u (by rw [star_err]; exact h)
theorem env_of {W : World} (h : laidMetH Tryz.prog listed W) (hs : W.ShapedOpen Tryz.prog) : Env W := by
  rw [MakeChecks.laidMetH_plain _ _ _ (by kernel_rfl)] at h
  have h2 := h.tail.tail
  have h4 := h2.tail.tail
  have h5 := h4.tail
  have tab := Lib.tabIs_of_head (zs := Lib.pow10Tab) (k := .u64) (g := 0) (t := 173) (n := 20) (e := 158) (by kernel_rfl) (by kernel_rfl) Tryz.underlying173 Tryz.underlying158 (by kernel_rfl) (by kernel_rfl) h2
  obtain ⟨a1, s1, hv1, _⟩ := laid_sentinel h4 (show Tryz.prog.globalNamed "strconv.ErrRange" = some 3 by kernel_rfl) (ti := 117) (by kernel_rfl) Tryz.underlying117 row192 Tryz.underlying192 Tryz.underlying194 rfl rfl Tryz.underlying9 (by kernel_rfl) (by kernel_rfl)
  obtain ⟨a2, s2, hv2, _⟩ := laid_sentinel h5 (show Tryz.prog.globalNamed "strconv.ErrSyntax" = some 2 by kernel_rfl) (ti := 117) (by kernel_rfl) Tryz.underlying117 row192 Tryz.underlying192 Tryz.underlying194 rfl rfl Tryz.underlying9 (by kernel_rfl) (by kernel_rfl)
  refine ⟨?_, ?_, ?_, tab⟩
  · exact cell_of_shapedOpen_int (P := Tryz.prog) (g := 1) (t := 3) (zero := #[.int .i64 0]) hs (of_decide_eq_true (by kernel_rfl)) (by kernel_rfl) rfl (by kernel_rfl) (by kernel_rfl) Tryz.underlying3
  · exact ⟨_, _, by simpa using World.var?_cell (show Tryz.prog.globalNamed "strconv.ErrSyntax" = some 2 by kernel_rfl) hv2 0⟩
  · exact ⟨_, _, by simpa using World.var?_cell (show Tryz.prog.globalNamed "strconv.ErrRange" = some 3 by kernel_rfl) hv1 0⟩
/-- As 'returnsInHanded_of_change_and'; the world's shape is handed on. -/
theorem handed_shaped {H : Type} {enc : TypeId × Value → H} {a : Assume} {C : Checked} {os : Os} {f : FuncId} {fn : Func} {s : ChangeSpec} {conds : List PathCond} {apart fresh handsOn again : Bool} {X : World → Array Value → Prop}
    (hX : ∀ (w w' : World) (args : Array Value), w.heap = w'.heap → X w args → X w' args)
    (own : ownKnob C.prog.godebug = none) (started : os.Started) (noInit : C.prog.inits.idxOf? f = none) (hfn : C.prog.funcs[f]? = some fn)
    (witness : ∃ (w : World) (tape : Tape) (i : Input), w.os = os ∧ (w.forCall tape i).Shaped C.prog ∧ i.vars = [] ∧ Input.okWide C.prog (w.forCall tape i) .any w.heap.size f i ∧
      ((s.pre enc C.prog fn conds apart (w.forCall tape i).memory i.args ∧ X (w.forCall tape i).memory i.args) ∧ sizedMet enc C.prog fn (OpenSpec.ofChange s) apart (w.forCall tape i).memory i.args) ∧ a.holds C.prog (lone (Frame.enter C.prog f i.args .normal) [] (w.forCall tape i)))
    (contract : ∀ (W : World) (base : Nat) (args : Array Value) (ds gs : List (DataW H)) (before : List MemPlace),
      (∀ (j : Nat) t v, fn.params[j]? = some t → args[j]? = some v → Value.okWide C.prog W .any base t v) →
      DataW.Whole enc C.prog fn.params.toList s.vars apart W args.toList ds gs before → X W args → W.ShapedOpen C.prog →
      Calls C.prog f args W fun e W' => ∃ v, e = .returned v ∧ s.post enc C.prog fn apart fresh handsOn again W args v W') :
    ReturnsInHanded a C os f .any (fun w args => (s.pre enc C.prog fn conds apart w args ∧ X w args) ∧ sizedMet enc C.prog fn (OpenSpec.ofChange s) apart w args) (s.post enc C.prog fn apart fresh handsOn again) := by
  refine returnsInHanded_of_calls own started noInit witness ?_
  intro w tape i _ hsh _ hok hpre hholds
  obtain ⟨_, _, _, fn', hfn', _, _, _, _, hval⟩ := hok
  have e : fn' = fn := Option.some.inj (hfn'.symm.trans hfn)
  subst e
  obtain ⟨⟨⟨ds, gs, before, hw, hc⟩, hx⟩, hz⟩ := hpre
  have hw' := DataW.Whole.of_heap (w' := w.forCall tape i) (by rfl) hw
  refine (contract (w.forCall tape i) w.heap.size i.args ds gs before hval hw' (hX _ _ _ (by rfl) hx) hsh).mono fun e W' ⟨v, he, hp⟩ => ?_
  subst he
  exact ChangeSpec.post_blind hp
theorem own_knob : ownKnob Tryz.prog.godebug = none := by kernel_rfl
theorem laid_out : laidOutB Tryz.prog = true := by kernel_rfl
end Go.Bp
end
