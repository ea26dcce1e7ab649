/- Texts L2 LB OP OE LV Spec24 LW of the proof, merged: contracts of functions of chapter 10, of the program and of the reference, and plain laws. -/
import Derived.Carry
import Derived.Handed
import Derived.LaidMore
import Derived.Lay
import Derived.Lib.LaidTab
import Derived.OpenShut
import Derived.ProofKit
import Derived.SevenTiedAt
import Derived.Shelf.Vars
import Derived.SliceStrings
import Derived.Stop.LaidErr
import Derived.Test.YthomnkgiaapljaaGreatDoorCards
import Derived.Test.YthomnkgiaapljaaGreatDoorD07
import Derived.Test.YthomnkgiaapljaaGreatDoorD09
import Derived.Test.YthomnkgiaapljaaGreatDoorTie
section
set_option maxRecDepth 100000
set_option linter.unusedSimpArgs false
set_option linter.unusedVariables false
namespace Go.Bp
open Go.RowKit Go.Proofs
theorem Sheets_ex (av bv : Value) (w : World) (ha : SheetV w av exSheet) (hb : SheetV w bv exSheet) : Calls Tryz.prog 27 #[av, bv] w fun e w' => e = .returned (.bool true) ∧ Ext w w' := by
  have := Sheets_any av bv exSheet exSheet w ha hb; rwa [ex_sheets] at this
theorem Ints_ex (av bv : Value) (xs : List Int) (w : World) (ha : Ints w av xs) (hb : Ints w bv xs) : Calls Tryz.prog 23 #[av, bv] w fun e w' => e = .returned (.bool true) ∧ Ext w w' := by
  have := Ints_any av bv xs xs w ha hb; simpa using this
section
variable {P : Program} {ops : Array Oper} {Q : Exit → Act → World → Prop} {S : World → Prop} {a : Act} {w : World} {rest : List Oper} {o : Oper}
theorem wpList_wanted (hw : Region.wanted o (yielded ops a.tmps) = true)
    (h : ∀ K : Act → World → Prop, (∀ a w, wpList P ops Q rest a w → K a w) → o.wp P a w K Q) : wpList P ops Q (o :: rest) a w :=
  wpList_step fun K hK => by rw [if_pos hw]; exact h K hK
theorem q_callG (hw : Region.wanted o (yielded ops a.tmps) = true) {f : FuncId} {args : Array Value} {R : Ending → World → Prop} (hc : Calls P f args w R) (hr : (execOp a.eval o).run P w = .ok (.enter f args) w)
    (hn : ∀ e w', R e w' → ∃ v, e = .returned v ∧ wpList P ops Q rest (a.put o.dst v) w') : wpList P ops Q (o :: rest) a w := by
  refine wpList_wanted hw fun K hK => ?_
  unfold Oper.wp
  rw [hr]
  refine Calls.mono hc fun e w' he => ?_
  obtain ⟨v, rfl, hk⟩ := hn e w' he
  exact hK _ _ hk
theorem q_bsliceG {d : Option Tmp} {ty : TypeId} {pos : String} {after : Array Edge} {gd : Option (Nat × Bool)} {t e : TypeId} {n : Nat} {parts : Array (Nat × Operand)} {cs : Array Value} (hw : Region.wanted (⟨d, .buildSlice t n parts, ty, pos, after, gd⟩ : Oper) (yielded ops a.tmps) = true)
    (h : (Instr.buildSlice t n (parts.map fun (i, x) => (i, a.eval x))).run P w = .ok (.slice (some ⟨w.heap.size, 0, none⟩) n n) (w.alloc (.cells cs e)))
    (k : ∀ W g, Ext w W → Blk W g e cs → w.heap.size ≤ g → wpList P ops Q rest (a.put d (.slice (some ⟨g, 0, none⟩) n n)) W) :
    wpList P ops Q (⟨d, .buildSlice t n parts, ty, pos, after, gd⟩ :: rest) a w :=
  wpList_wanted hw fun K hK => by
    have h' : (execOp a.eval (⟨d, .buildSlice t n parts, ty, pos, after, gd⟩ : Oper)).run P w = .ok (.value (.slice (some ⟨w.heap.size, 0, none⟩) n n)) (w.alloc (.cells cs e)) := by
      simp [execOp, h]
    unfold Oper.wp; rw [h']
    exact hK _ _ (k _ _ (Ext.ofAlloc _ _) (Blk.new _ _ _) (Nat.le_refl _))
theorem t_takeW {i : Nat} {r : OTree} {v : Value} (ho : ops[i]? = some o) (hw : Region.wanted o (yielded ops a.tmps) = true) (hy : ∀ w, S w → (execOp a.eval o).run P w = .ok (.value v) w) (hS : S w)
    (k : wpTree P ops Q S r (a.put o.dst v) w) : wpTree P ops Q S (.take i r) a w :=
  ⟨o, v, ho, .inl ⟨hw, hy⟩, hS, k⟩
end
theorem Ints.row {w w' : World} {v : Value} {xs : List Int} {g : Nat} (h : Ints w v xs) (hg : w.grownBy w' (some g)) (hb : w.heap.size ≤ g) : Ints w' v xs := h.ext (below_grown (Ext.refl w) hg hb (Nat.le_refl _))
set_option maxHeartbeats 8000000 in
theorem Awake_any (w : World) (hv : Env w) : Calls Tryz.prog 24 #[] w fun e w' => e = .returned (.bool true) ∧ Ext w w' := by
  have hE := Ext.refl w
  go_enter Tryz.func24, Tryz.ntmps24
  go_wp2_with (first | (go_at_call 42; refine (Code_any _).mono ?_; rintro e Wc ⟨vc, rfl, hC, hEx⟩; (try replace hE := Ext.trans hE hEx); (try replace hSh := hSh.ext hEx); (try replace hB4 := hB4.ext hEx); (try replace hK4 := hK4.ext hEx); (try replace h10 := h10.ext hEx); (try replace h14 := h14.ext hEx); (try replace h16 := h16.ext hEx); (try replace hB20 := hB20.ext hEx); (try replace hK20 := hK20.ext hEx); (try replace hIb := hIb.ext hEx); (try replace hIc := hIc.ext hEx); clear hEx) | (go_at_call 43; refine (Sheet_any _).mono ?_; rintro e Wc ⟨vs, rfl, hSh, hEx⟩; (try replace hE := Ext.trans hE hEx); (try replace hC := hC.ext hEx); (try replace hB4 := hB4.ext hEx); (try replace hK4 := hK4.ext hEx); (try replace h10 := h10.ext hEx); (try replace h14 := h14.ext hEx); (try replace h16 := h16.ext hEx); (try replace hB20 := hB20.ext hEx); (try replace hK20 := hK20.ext hEx); (try replace hIb := hIb.ext hEx); (try replace hIc := hIc.ext hEx); clear hEx) | ((with_reducible refine q_bslice (d := some 26) (t := 26) (n := 4) (e := 3) (cs := #[.int .i64 0, .int .i64 1, .int .i64 3, .int .i64 0]) ?_ ?_); (simp [Act.eval]; exact bsI4 _ 0 1 3 0); intro Wb gb hEb hBb hgb; (try replace hE := Ext.trans hE hEb); (try replace hC := hC.ext hEb); (try replace hSh := hSh.ext hEb); (try replace hB4 := hB4.ext hEb); (try replace hK4 := hK4.ext hEb); (try replace h10 := h10.ext hEb); (try replace h14 := h14.ext hEb); (try replace h16 := h16.ext hEb); (try replace hB20 := hB20.ext hEb); (try replace hK20 := hK20.ext hEb); (try replace hIc := hIc.ext hEb); have hIb := ints_blk (xs := [0, 1, 3, 0]) hBb (by decide); clear hBb hEb hgb) | (go_at_call 19; refine (PJudge_any _ _ exCode _ _ hC hIb).mono ?_; rw [ex_judge]; rintro e Wc ⟨rfl, hEx⟩; (try replace hE := Ext.trans hE hEx); (try replace hC := hC.ext hEx); (try replace hSh := hSh.ext hEx); (try replace hB4 := hB4.ext hEx); (try replace hK4 := hK4.ext hEx); (try replace h10 := h10.ext hEx); (try replace h14 := h14.ext hEx); (try replace h16 := h16.ext hEx); (try replace hB20 := hB20.ext hEx); (try replace hK20 := hK20.ext hEx); (try replace hIb := hIb.ext hEx); (try replace hIc := hIc.ext hEx); clear hEx) | ((with_reducible refine q_bslice (d := some 33) (t := 26) (n := 4) (e := 3) (cs := #[.int .i64 0, .int .i64 1, .int .i64 3, .int .i64 0]) ?_ ?_); (simp [Act.eval]; exact bsI4 _ 0 1 3 0); intro Wb gb hEb hBb hgb; (try replace hE := Ext.trans hE hEb); (try replace hC := hC.ext hEb); (try replace hSh := hSh.ext hEb); (try replace hB4 := hB4.ext hEb); (try replace hK4 := hK4.ext hEb); (try replace h10 := h10.ext hEb); (try replace h14 := h14.ext hEb); (try replace h16 := h16.ext hEb); (try replace hB20 := hB20.ext hEb); (try replace hK20 := hK20.ext hEb); (try replace hIc := hIc.ext hEb); have hIb := ints_blk (xs := [0, 1, 3, 0]) hBb (by decide); clear hBb hEb hgb) | ((with_reducible refine q_bslice (d := some 34) (t := 26) (n := 2) (e := 3) (cs := #[.int .i64 2, .int .i64 4]) ?_ ?_); (simp [Act.eval]; exact bsI2 _ 2 4); intro Wb gb hEb hBb hgb; (try replace hE := Ext.trans hE hEb); (try replace hC := hC.ext hEb); (try replace hSh := hSh.ext hEb); (try replace hB4 := hB4.ext hEb); (try replace hK4 := hK4.ext hEb); (try replace h10 := h10.ext hEb); (try replace h14 := h14.ext hEb); (try replace h16 := h16.ext hEb); (try replace hB20 := hB20.ext hEb); (try replace hK20 := hK20.ext hEb); (try replace hIb := hIb.ext hEb); have hIc := ints_blk (xs := [2, 4]) hBb (by decide); clear hBb hEb hgb) | (go_at_call 25; refine (PKeep_any _ _ _ exCode _ _ _ hC hIb hIc).mono ?_; rw [ex_keep]; rintro e Wc ⟨v4, rfl, ⟨kv4, rfl, hK4⟩, hEx⟩; (try replace hE := Ext.trans hE hEx); (try replace hC := hC.ext hEx); (try replace hSh := hSh.ext hEx); (try replace hB4 := hB4.ext hEx); (try replace h10 := h10.ext hEx); (try replace h14 := h14.ext hEx); (try replace h16 := h16.ext hEx); (try replace hB20 := hB20.ext hEx); (try replace hK20 := hK20.ext hEx); (try replace hIb := hIb.ext hEx); (try replace hIc := hIc.ext hEx); clear hEx; obtain ⟨A4, c4, rfl, _, _, _, _⟩ := id hK4; clear hIb hIc) | ((with_reducible refine q_alloc (d := some 4) ti39 ?_); intro W4 g4 hE4 hB4 hg4; simp [Value.cells] at hB4) | ((with_reducible refine q_store (t := 39) (e := 39) (g := g4) (off := 0) (n := 2) (v := .agg #[.int .i64 exSheet.lines, .slice A4 exSheet.kept.length c4]) ?_ ?_ hB4 size39 ?_ ?_ ?_ ?_); rfl; rfl; rfl; (simp [Value.cells]); (simp [Value.cells, Value.oneCell']); intro Wq hBq hgs; simp [putAt, Value.cells] at hBq; have hX := below_grown hE4 hgs hg4 hE4.size; (try replace hE := Ext.trans hE hX); (try replace hC := hC.ext hX); (try replace hSh := hSh.ext hX); (try replace hK4 := hK4.ext hX); (try replace h10 := h10.ext hX); (try replace h14 := h14.ext hX); (try replace h16 := h16.ext hX); (try replace hB20 := hB20.ext hX); (try replace hK20 := hK20.ext hX); (try replace hIb := hIb.ext hX); (try replace hIc := hIc.ext hX); have hB4 := hBq; clear hgs hX) | (go_at_call 28; refine (PFits_any _ _ exCode exSheet _ hC hSh).mono ?_; rw [ex_fits]; rintro e Wc ⟨rfl, hEx⟩; (try replace hE := Ext.trans hE hEx); (try replace hC := hC.ext hEx); (try replace hSh := hSh.ext hEx); (try replace hB4 := hB4.ext hEx); (try replace hK4 := hK4.ext hEx); (try replace h10 := h10.ext hEx); (try replace h14 := h14.ext hEx); (try replace h16 := h16.ext hEx); (try replace hB20 := hB20.ext hEx); (try replace hK20 := hK20.ext hEx); (try replace hIb := hIb.ext hEx); (try replace hIc := hIc.ext hEx); clear hEx) | (go_at_call 30; refine (POutcome_any _ _ exCode exSheet _ hC hSh).mono ?_; rw [ex_outcome]; rintro e Wc ⟨rfl, hEx⟩; (try replace hE := Ext.trans hE hEx); (try replace hC := hC.ext hEx); (try replace hSh := hSh.ext hEx); (try replace hB4 := hB4.ext hEx); (try replace hK4 := hK4.ext hEx); (try replace h10 := h10.ext hEx); (try replace h14 := h14.ext hEx); (try replace h16 := h16.ext hEx); (try replace hB20 := hB20.ext hEx); (try replace hK20 := hK20.ext hEx); (try replace hIb := hIb.ext hEx); (try replace hIc := hIc.ext hEx); clear hEx) | (go_at_call 32; refine (PShow_any _ _ exCode exSheet false _ hC hSh).mono ?_; rw [ex_show]; rintro e Wc ⟨v10, rfl, h10, hEx⟩; (try replace hE := Ext.trans hE hEx); (try replace hC := hC.ext hEx); (try replace hSh := hSh.ext hEx); (try replace hB4 := hB4.ext hEx); (try replace hK4 := hK4.ext hEx); (try replace h14 := h14.ext hEx); (try replace h16 := h16.ext hEx); (try replace hB20 := hB20.ext hEx); (try replace hK20 := hK20.ext hEx); (try replace hIb := hIb.ext hEx); (try replace hIc := hIc.ext hEx); clear hEx; replace h10 := h10.ints) | ((with_reducible refine q_bslice (d := some 59) (t := 26) (n := 1) (e := 3) (cs := #[.int .i64 4]) ?_ ?_); (simp [Act.eval]; exact bsI1 _ 4); intro Wb gb hEb hBb hgb; (try replace hE := Ext.trans hE hEb); (try replace hC := hC.ext hEb); (try replace hSh := hSh.ext hEb); (try replace hB4 := hB4.ext hEb); (try replace hK4 := hK4.ext hEb); (try replace h10 := h10.ext hEb); (try replace h14 := h14.ext hEb); (try replace h16 := h16.ext hEb); (try replace hB20 := hB20.ext hEb); (try replace hK20 := hK20.ext hEb); (try replace hIc := hIc.ext hEb); have hIb := ints_blk (xs := [4]) hBb (by decide); clear hBb hEb hgb) | (go_at_call 34; refine (PEnough_any _ _ _ exCode exSheet _ _ hC hSh hIb).mono ?_; rw [ex_enough]; rintro e Wc ⟨rfl, hEx⟩; (try replace hE := Ext.trans hE hEx); (try replace hC := hC.ext hEx); (try replace hSh := hSh.ext hEx); (try replace hB4 := hB4.ext hEx); (try replace hK4 := hK4.ext hEx); (try replace h10 := h10.ext hEx); (try replace h14 := h14.ext hEx); (try replace h16 := h16.ext hEx); (try replace hB20 := hB20.ext hEx); (try replace hK20 := hK20.ext hEx); (try replace hIb := hIb.ext hEx); (try replace hIc := hIc.ext hEx); clear hEx) | (go_at_call 36; refine (PFewest_any _ _ exCode exSheet _ hC hSh).mono ?_; rw [ex_fewest]; rintro e Wc ⟨v14, rfl, h14, hEx⟩; (try replace hE := Ext.trans hE hEx); (try replace hC := hC.ext hEx); (try replace hSh := hSh.ext hEx); (try replace hB4 := hB4.ext hEx); (try replace hK4 := hK4.ext hEx); (try replace h10 := h10.ext hEx); (try replace h16 := h16.ext hEx); (try replace hB20 := hB20.ext hEx); (try replace hK20 := hK20.ext hEx); (try replace hIb := hIb.ext hEx); (try replace hIc := hIc.ext hEx); clear hEx; replace h14 := h14.ints) | ((with_reducible refine q_bslice (d := some 71) (t := 26) (n := 5) (e := 3) (cs := #[.int .i64 0, .int .i64 1, .int .i64 1, .int .i64 3, .int .i64 0]) ?_ ?_); (simp [Act.eval]; exact bsI5 _ 0 1 1 3 0); intro Wb gb hEb hBb hgb; (try replace hE := Ext.trans hE hEb); (try replace hC := hC.ext hEb); (try replace hSh := hSh.ext hEb); (try replace hB4 := hB4.ext hEb); (try replace hK4 := hK4.ext hEb); (try replace h10 := h10.ext hEb); (try replace h14 := h14.ext hEb); (try replace h16 := h16.ext hEb); (try replace hB20 := hB20.ext hEb); (try replace hK20 := hK20.ext hEb); (try replace hIc := hIc.ext hEb); have hIb := ints_blk (xs := [0, 1, 1, 3, 0]) hBb (by decide); clear hBb hEb hgb) | (go_at_call 21; first | (refine (PAppeal_any _ _ exCode [0, 1, 1, 3, 0] _ hC hIb).mono ?_; rw [ex_appeal]; rintro e Wc ⟨v16, rfl, h16, hEx⟩; (try replace hE := Ext.trans hE hEx); (try replace hC := hC.ext hEx); (try replace hSh := hSh.ext hEx); (try replace hB4 := hB4.ext hEx); (try replace hK4 := hK4.ext hEx); (try replace h10 := h10.ext hEx); (try replace h14 := h14.ext hEx); (try replace hB20 := hB20.ext hEx); (try replace hK20 := hK20.ext hEx); (try replace hIb := hIb.ext hEx); (try replace hIc := hIc.ext hEx); replace h16 := h16.ints; clear hEx) | (refine (PAppeal_any _ _ exCode [0, 0] _ hC hIb).mono ?_; rw [ex_none]; rintro e Wc ⟨vn, rfl, _, hEx⟩; (try replace hE := Ext.trans hE hEx); (try replace hC := hC.ext hEx); (try replace hSh := hSh.ext hEx); (try replace hB4 := hB4.ext hEx); (try replace hK4 := hK4.ext hEx); (try replace h10 := h10.ext hEx); (try replace h14 := h14.ext hEx); (try replace h16 := h16.ext hEx); (try replace hB20 := hB20.ext hEx); (try replace hK20 := hK20.ext hEx); (try replace hIb := hIb.ext hEx); (try replace hIc := hIc.ext hEx); clear hEx)) | (go_at_call 38; refine (PWrite_any _ _ exCode exSheet _ hC hSh (hv.ext hE)).mono ?_; rw [ex_write]; rintro e Wc ⟨rfl, hEx⟩; (try replace hE := Ext.trans hE hEx); (try replace hC := hC.ext hEx); (try replace hSh := hSh.ext hEx); (try replace hB4 := hB4.ext hEx); (try replace hK4 := hK4.ext hEx); (try replace h10 := h10.ext hEx); (try replace h14 := h14.ext hEx); (try replace h16 := h16.ext hEx); (try replace hB20 := hB20.ext hEx); (try replace hK20 := hK20.ext hEx); (try replace hIb := hIb.ext hEx); (try replace hIc := hIc.ext hEx); clear hEx) | (go_at_call 40; refine (PRead_any _ exCode (S exText) _ hC (hv.ext hE) (by decide)).mono ?_; rw [ex_read]; rintro e Wc ⟨v20, rfl, ⟨kv20, rfl, hK20⟩, hEx⟩; (try replace hE := Ext.trans hE hEx); (try replace hC := hC.ext hEx); (try replace hSh := hSh.ext hEx); (try replace hB4 := hB4.ext hEx); (try replace hK4 := hK4.ext hEx); (try replace h10 := h10.ext hEx); (try replace h14 := h14.ext hEx); (try replace h16 := h16.ext hEx); (try replace hB20 := hB20.ext hEx); (try replace hIb := hIb.ext hEx); (try replace hIc := hIc.ext hEx); clear hEx; obtain ⟨A20, c20, rfl, _, _, _, _⟩ := id hK20) | ((with_reducible refine q_alloc (d := some 20) ti39 ?_); intro W20 g20 hE20 hB20 hg20; simp [Value.cells] at hB20) | ((with_reducible refine q_store (t := 39) (e := 39) (g := g20) (off := 0) (n := 2) (v := .agg #[.int .i64 exSheet.lines, .slice A20 exSheet.kept.length c20]) ?_ ?_ hB20 size39 ?_ ?_ ?_ ?_); rfl; rfl; rfl; (simp [Value.cells]); (simp [Value.cells, Value.oneCell']); intro Wq hBq hgs; simp [putAt, Value.cells] at hBq; have hX := below_grown hE20 hgs hg20 hE20.size; (try replace hE := Ext.trans hE hX); (try replace hC := hC.ext hX); (try replace hSh := hSh.ext hX); (try replace hB4 := hB4.ext hX); (try replace hK4 := hK4.ext hX); (try replace h10 := h10.ext hX); (try replace h14 := h14.ext hX); (try replace h16 := h16.ext hX); (try replace hK20 := hK20.ext hX); (try replace hIb := hIb.ext hX); (try replace hIc := hIc.ext hX); have hB20 := hBq; clear hgs hX) | ((with_reducible refine q_bslice (d := some 89) (t := 26) (n := 2) (e := 3) (cs := #[.int .i64 0, .int .i64 0]) ?_ ?_); (simp [Act.eval]; exact bsI2 _ 0 0); intro Wb gb hEb hBb hgb; (try replace hE := Ext.trans hE hEb); (try replace hC := hC.ext hEb); (try replace hSh := hSh.ext hEb); (try replace hB4 := hB4.ext hEb); (try replace hK4 := hK4.ext hEb); (try replace h10 := h10.ext hEb); (try replace h14 := h14.ext hEb); (try replace h16 := h16.ext hEb); (try replace hB20 := hB20.ext hEb); (try replace hK20 := hK20.ext hEb); (try replace hIc := hIc.ext hEb); have hIb := ints_blk (xs := [0, 0]) hBb (by decide); clear hBb hEb hgb))
  have hdr := Ext.todrew (Ext.refl Wc)
  (try replace hE := Ext.trans hE hdr); (try replace hC := hC.ext hdr); (try replace hSh := hSh.ext hdr); (try replace hB4 := hB4.ext hdr); (try replace hK4 := hK4.ext hdr); (try replace h10 := h10.ext hdr); (try replace h14 := h14.ext hdr); (try replace h16 := h16.ext hdr); (try replace hB20 := hB20.ext hdr); (try replace hK20 := hK20.ext hdr); (try replace hIb := hIb.ext hdr); (try replace hIc := hIc.ext hdr)
  refine wp_region_tree (.take 0 (.take 1 (.take 2 (.take 3 (.take 4 (.take 5 (.take 6 (.take 7 (.take 8 (.take 9 (.take 10 (.take 11 (.take 12 (.take 13 (.take 14 (.take 15 (.take 16 (.take 17 (.take 18 (.take 19 (.take 20 (.take 21 (.take 22 (.take 23 (.take 24 (.take 25 (.take 26 (.take 27 (.take 28 (.take 29 (.take 30 (.take 31 (.take 32 (.take 33 (.take 34 (.take 35 (.take 36 (.take 37 (.take 38 (.take 39 (.take 40 (.take 41 (.take 42 (.take 43 (.take 44 (.take 45 (.take 46 (.take 47 (.take 48 (.take 49 (.take 50 (.one 51 (.one 52 (.take 53 (.take 54 (.take 55 (.take 56 (.take 57 (.take 58 (.take 59 (.take 60 (.take 61 (.take 62 (.take 63 (.one 64 (.one 65 (.take 66 (.take 67 (.take 68 (.take 69 (.take 70 (.take 71 (.one 72 (.one 73 (.take 74 (.take 75 (.take 76 (.one 77 (.one 78 (.take 79 (.take 80 (.take 81 (.take 82 (.take 83 (.take 84 (.take 85 (.one 86 (.one 87 (.take 88 (.take 89 .nil)))))))))))))))))))))))))))))))))))))))))))))))))))))))))))))))))))))))))))))))))))))))))) (fun w' => Blk w' g4 39 #[.int .i64 exSheet.lines, .slice A4 exSheet.kept.length c4] ∧ Blk w' g20 39 #[.int .i64 exSheet.lines, .slice A20 exSheet.kept.length c20]) (by kernel_rfl) (by kernel_rfl) (by kernel_rfl) (by exact ok12) (fun _ _ _ _ _ h => h) ?_ (fun hHeld => ?_)
  · (first | exact True.intro | ((try dsimp only); (repeat' apply And.intro) <;> first | assumption | (refine Ext.cell_some (Ext.todrew (Ext.refl _)) ?_; assumption)))
  refine t_takeW (i := 0) (v := ?_) (by (simp only [List.getElem?_toArray, List.getElem?_cons_succ, List.getElem?_cons_zero]); rfl) (by rfl) ?_ (by exact hHeld) ?_
  rotate_left
  · (intro wq hSw; (try dsimp only at hSw); go_simp; (try with_reducible rfl))
  (try simp only [Act.put, List.setIfInBounds_toArray, List.set_cons_zero, List.set_cons_succ])
  refine t_takeW (i := 1) (v := ?_) (by (simp only [List.getElem?_toArray, List.getElem?_cons_succ, List.getElem?_cons_zero]); rfl) (by rfl) ?_ (by exact hHeld) ?_
  rotate_left
  · (intro wq hSw; (try dsimp only at hSw); go_simp; (try with_reducible rfl))
  (try simp only [Act.put, List.setIfInBounds_toArray, List.set_cons_zero, List.set_cons_succ])
  refine t_takeW (i := 2) (v := ?_) (by (simp only [List.getElem?_toArray, List.getElem?_cons_succ, List.getElem?_cons_zero]); rfl) (by rfl) ?_ (by exact hHeld) ?_
  rotate_left
  · (intro wq hSw; (try dsimp only at hSw); go_simp; (try with_reducible rfl))
  (try simp only [Act.put, List.setIfInBounds_toArray, List.set_cons_zero, List.set_cons_succ])
  refine t_takeW (i := 3) (v := ?_) (by (simp only [List.getElem?_toArray, List.getElem?_cons_succ, List.getElem?_cons_zero]); rfl) (by rfl) ?_ (by exact hHeld) ?_
  rotate_left
  · (intro wq hSw; (try dsimp only at hSw); go_simp; (try with_reducible rfl))
  (try simp only [Act.put, List.setIfInBounds_toArray, List.set_cons_zero, List.set_cons_succ])
  refine t_takeW (i := 4) (v := ?_) (by (simp only [List.getElem?_toArray, List.getElem?_cons_succ, List.getElem?_cons_zero]); rfl) (by rfl) ?_ (by exact hHeld) ?_
  rotate_left
  · (intro wq hSw; (try dsimp only at hSw); go_simp; (try with_reducible rfl))
  (try simp only [Act.put, List.setIfInBounds_toArray, List.set_cons_zero, List.set_cons_succ])
  refine t_takeW (i := 5) (v := ?_) (by (simp only [List.getElem?_toArray, List.getElem?_cons_succ, List.getElem?_cons_zero]); rfl) (by rfl) ?_ (by exact hHeld) ?_
  rotate_left
  · (intro wq hSw; (try dsimp only at hSw); go_simp; (try with_reducible rfl))
  (try simp only [Act.put, List.setIfInBounds_toArray, List.set_cons_zero, List.set_cons_succ])
  refine t_takeW (i := 6) (v := ?_) (by (simp only [List.getElem?_toArray, List.getElem?_cons_succ, List.getElem?_cons_zero]); rfl) (by rfl) ?_ (by exact hHeld) ?_
  rotate_left
  · (intro wq hSw; (try dsimp only at hSw); go_simp; (try with_reducible rfl))
  (try simp only [Act.put, List.setIfInBounds_toArray, List.set_cons_zero, List.set_cons_succ])
  refine t_takeW (i := 7) (v := ?_) (by (simp only [List.getElem?_toArray, List.getElem?_cons_succ, List.getElem?_cons_zero]); rfl) (by rfl) ?_ (by exact hHeld) ?_
  rotate_left
  · (intro wq hSw; (try dsimp only at hSw); go_simp; (try with_reducible rfl))
  (try simp only [Act.put, List.setIfInBounds_toArray, List.set_cons_zero, List.set_cons_succ])
  refine t_takeW (i := 8) (v := ?_) (by (simp only [List.getElem?_toArray, List.getElem?_cons_succ, List.getElem?_cons_zero]); rfl) (by rfl) ?_ (by exact hHeld) ?_
  rotate_left
  · (intro wq hSw; (try dsimp only at hSw); go_simp; (try with_reducible rfl))
  (try simp only [Act.put, List.setIfInBounds_toArray, List.set_cons_zero, List.set_cons_succ])
  refine t_takeW (i := 9) (v := ?_) (by (simp only [List.getElem?_toArray, List.getElem?_cons_succ, List.getElem?_cons_zero]); rfl) (by rfl) ?_ (by exact hHeld) ?_
  rotate_left
  · (intro wq hSw; (try dsimp only at hSw); go_simp; (try with_reducible rfl))
  (try simp only [Act.put, List.setIfInBounds_toArray, List.set_cons_zero, List.set_cons_succ])
  refine t_takeW (i := 10) (v := ?_) (by (simp only [List.getElem?_toArray, List.getElem?_cons_succ, List.getElem?_cons_zero]); rfl) (by rfl) ?_ (by exact hHeld) ?_
  rotate_left
  · (intro wq hSw; (try dsimp only at hSw); go_simp; (try with_reducible rfl))
  (try simp only [Act.put, List.setIfInBounds_toArray, List.set_cons_zero, List.set_cons_succ])
  refine t_takeW (i := 11) (v := ?_) (by (simp only [List.getElem?_toArray, List.getElem?_cons_succ, List.getElem?_cons_zero]); rfl) (by rfl) ?_ (by exact hHeld) ?_
  rotate_left
  · (intro wq hSw; (try dsimp only at hSw); go_simp; (try with_reducible rfl))
  (try simp only [Act.put, List.setIfInBounds_toArray, List.set_cons_zero, List.set_cons_succ])
  refine t_takeW (i := 12) (v := ?_) (by (simp only [List.getElem?_toArray, List.getElem?_cons_succ, List.getElem?_cons_zero]); rfl) (by rfl) ?_ (by exact hHeld) ?_
  rotate_left
  · (intro wq hSw; (try dsimp only at hSw); go_simp; (try with_reducible rfl))
  (try simp only [Act.put, List.setIfInBounds_toArray, List.set_cons_zero, List.set_cons_succ])
  refine t_takeW (i := 13) (v := ?_) (by (simp only [List.getElem?_toArray, List.getElem?_cons_succ, List.getElem?_cons_zero]); rfl) (by rfl) ?_ (by exact hHeld) ?_
  rotate_left
  · (intro wq hSw; (try dsimp only at hSw); go_simp; (try with_reducible rfl))
  (try simp only [Act.put, List.setIfInBounds_toArray, List.set_cons_zero, List.set_cons_succ])
  refine t_takeW (i := 14) (v := ?_) (by (simp only [List.getElem?_toArray, List.getElem?_cons_succ, List.getElem?_cons_zero]); rfl) (by rfl) ?_ (by exact hHeld) ?_
  rotate_left
  · (intro wq hSw; (try dsimp only at hSw); go_simp; (try with_reducible rfl))
  (try simp only [Act.put, List.setIfInBounds_toArray, List.set_cons_zero, List.set_cons_succ])
  refine t_takeW (i := 15) (v := ?_) (by (simp only [List.getElem?_toArray, List.getElem?_cons_succ, List.getElem?_cons_zero]); rfl) (by rfl) ?_ (by exact hHeld) ?_
  rotate_left
  · (intro wq hSw; (try dsimp only at hSw); go_simp; (try with_reducible rfl))
  (try simp only [Act.put, List.setIfInBounds_toArray, List.set_cons_zero, List.set_cons_succ])
  refine t_takeW (i := 16) (v := ?_) (by (simp only [List.getElem?_toArray, List.getElem?_cons_succ, List.getElem?_cons_zero]); rfl) (by rfl) ?_ (by exact hHeld) ?_
  rotate_left
  · (intro wq hSw; (try dsimp only at hSw); go_simp; (try with_reducible rfl))
  (try simp only [Act.put, List.setIfInBounds_toArray, List.set_cons_zero, List.set_cons_succ])
  refine t_takeW (i := 17) (v := ?_) (by (simp only [List.getElem?_toArray, List.getElem?_cons_succ, List.getElem?_cons_zero]); rfl) (by rfl) ?_ (by exact hHeld) ?_
  rotate_left
  · (intro wq hSw; (try dsimp only at hSw); go_simp; (try with_reducible rfl))
  (try simp only [Act.put, List.setIfInBounds_toArray, List.set_cons_zero, List.set_cons_succ])
  refine t_takeW (i := 18) (v := ?_) (by (simp only [List.getElem?_toArray, List.getElem?_cons_succ, List.getElem?_cons_zero]); rfl) (by rfl) ?_ (by exact hHeld) ?_
  rotate_left
  · (intro wq hSw; (try dsimp only at hSw); go_simp; (try with_reducible rfl))
  (try simp only [Act.put, List.setIfInBounds_toArray, List.set_cons_zero, List.set_cons_succ])
  refine t_takeW (i := 19) (v := ?_) (by (simp only [List.getElem?_toArray, List.getElem?_cons_succ, List.getElem?_cons_zero]); rfl) (by rfl) ?_ (by exact hHeld) ?_
  rotate_left
  · (intro wq hSw; (try dsimp only at hSw); go_simp; (try with_reducible rfl))
  (try simp only [Act.put, List.setIfInBounds_toArray, List.set_cons_zero, List.set_cons_succ])
  refine t_takeW (i := 20) (v := ?_) (by (simp only [List.getElem?_toArray, List.getElem?_cons_succ, List.getElem?_cons_zero]); rfl) (by rfl) ?_ (by exact hHeld) ?_
  rotate_left
  · (intro wq hSw; (try dsimp only at hSw); go_simp; (try with_reducible rfl))
  (try simp only [Act.put, List.setIfInBounds_toArray, List.set_cons_zero, List.set_cons_succ])
  refine t_takeW (i := 21) (v := ?_) (by (simp only [List.getElem?_toArray, List.getElem?_cons_succ, List.getElem?_cons_zero]); rfl) (by rfl) ?_ (by exact hHeld) ?_
  rotate_left
  · (intro wq hSw; (try dsimp only at hSw); go_simp; (try with_reducible rfl))
  (try simp only [Act.put, List.setIfInBounds_toArray, List.set_cons_zero, List.set_cons_succ])
  refine t_takeW (i := 22) (v := ?_) (by (simp only [List.getElem?_toArray, List.getElem?_cons_succ, List.getElem?_cons_zero]); rfl) (by rfl) ?_ (by exact hHeld) ?_
  rotate_left
  · (intro wq hSw; (try dsimp only at hSw); go_simp; (try with_reducible rfl))
  (try simp only [Act.put, List.setIfInBounds_toArray, List.set_cons_zero, List.set_cons_succ])
  refine t_takeW (i := 23) (v := ?_) (by (simp only [List.getElem?_toArray, List.getElem?_cons_succ, List.getElem?_cons_zero]); rfl) (by rfl) ?_ (by exact hHeld) ?_
  rotate_left
  · (intro wq hSw; (try dsimp only at hSw); go_simp; (try with_reducible rfl))
  (try simp only [Act.put, List.setIfInBounds_toArray, List.set_cons_zero, List.set_cons_succ])
  refine t_takeW (i := 24) (v := ?_) (by (simp only [List.getElem?_toArray, List.getElem?_cons_succ, List.getElem?_cons_zero]); rfl) (by rfl) ?_ (by exact hHeld) ?_
  rotate_left
  · (intro wq hSw; (try dsimp only at hSw); go_simp; (try with_reducible rfl))
  (try simp only [Act.put, List.setIfInBounds_toArray, List.set_cons_zero, List.set_cons_succ])
  refine t_takeW (i := 25) (v := ?_) (by (simp only [List.getElem?_toArray, List.getElem?_cons_succ, List.getElem?_cons_zero]); rfl) (by rfl) ?_ (by exact hHeld) ?_
  rotate_left
  · (intro wq hSw; (try dsimp only at hSw); go_simp; (try with_reducible rfl))
  (try simp only [Act.put, List.setIfInBounds_toArray, List.set_cons_zero, List.set_cons_succ])
  refine t_takeW (i := 26) (v := ?_) (by (simp only [List.getElem?_toArray, List.getElem?_cons_succ, List.getElem?_cons_zero]); rfl) (by rfl) ?_ (by exact hHeld) ?_
  rotate_left
  · (intro wq hSw; (try dsimp only at hSw); go_simp; (try with_reducible rfl))
  (try simp only [Act.put, List.setIfInBounds_toArray, List.set_cons_zero, List.set_cons_succ])
  refine t_takeW (i := 27) (v := ?_) (by (simp only [List.getElem?_toArray, List.getElem?_cons_succ, List.getElem?_cons_zero]); rfl) (by rfl) ?_ (by exact hHeld) ?_
  rotate_left
  · (intro wq hSw; (try dsimp only at hSw); go_simp; (try with_reducible rfl))
  (try simp only [Act.put, List.setIfInBounds_toArray, List.set_cons_zero, List.set_cons_succ])
  refine t_takeW (i := 28) (v := ?_) (by (simp only [List.getElem?_toArray, List.getElem?_cons_succ, List.getElem?_cons_zero]); rfl) (by rfl) ?_ (by exact hHeld) ?_
  rotate_left
  · (intro wq hSw; (try dsimp only at hSw); go_simp; (try with_reducible rfl))
  (try simp only [Act.put, List.setIfInBounds_toArray, List.set_cons_zero, List.set_cons_succ])
  refine t_takeW (i := 29) (v := ?_) (by (simp only [List.getElem?_toArray, List.getElem?_cons_succ, List.getElem?_cons_zero]); rfl) (by rfl) ?_ (by exact hHeld) ?_
  rotate_left
  · (intro wq hSw; (try dsimp only at hSw); go_simp; (try with_reducible rfl))
  (try simp only [Act.put, List.setIfInBounds_toArray, List.set_cons_zero, List.set_cons_succ])
  refine t_takeW (i := 30) (v := ?_) (by (simp only [List.getElem?_toArray, List.getElem?_cons_succ, List.getElem?_cons_zero]); rfl) (by rfl) ?_ (by exact hHeld) ?_
  rotate_left
  · (intro wq hSw; (try dsimp only at hSw); go_simp; (try with_reducible rfl))
  (try simp only [Act.put, List.setIfInBounds_toArray, List.set_cons_zero, List.set_cons_succ])
  refine t_takeW (i := 31) (v := ?_) (by (simp only [List.getElem?_toArray, List.getElem?_cons_succ, List.getElem?_cons_zero]); rfl) (by rfl) ?_ (by exact hHeld) ?_
  rotate_left
  · (intro wq hSw; (try dsimp only at hSw); go_simp; (try with_reducible rfl))
  (try simp only [Act.put, List.setIfInBounds_toArray, List.set_cons_zero, List.set_cons_succ])
  refine t_takeW (i := 32) (v := ?_) (by (simp only [List.getElem?_toArray, List.getElem?_cons_succ, List.getElem?_cons_zero]); rfl) (by rfl) ?_ (by exact hHeld) ?_
  rotate_left
  · (intro wq hSw; (try dsimp only at hSw); go_simp; (try with_reducible rfl))
  (try simp only [Act.put, List.setIfInBounds_toArray, List.set_cons_zero, List.set_cons_succ])
  refine t_takeW (i := 33) (v := ?_) (by (simp only [List.getElem?_toArray, List.getElem?_cons_succ, List.getElem?_cons_zero]); rfl) (by rfl) ?_ (by exact hHeld) ?_
  rotate_left
  · (intro wq hSw; (try dsimp only at hSw); go_simp; (try with_reducible rfl))
  (try simp only [Act.put, List.setIfInBounds_toArray, List.set_cons_zero, List.set_cons_succ])
  refine t_takeW (i := 34) (v := ?_) (by (simp only [List.getElem?_toArray, List.getElem?_cons_succ, List.getElem?_cons_zero]); rfl) (by rfl) ?_ (by exact hHeld) ?_
  rotate_left
  · (intro wq hSw; (try dsimp only at hSw); go_simp; (try with_reducible rfl))
  (try simp only [Act.put, List.setIfInBounds_toArray, List.set_cons_zero, List.set_cons_succ])
  refine t_takeW (i := 35) (v := ?_) (by (simp only [List.getElem?_toArray, List.getElem?_cons_succ, List.getElem?_cons_zero]); rfl) (by rfl) ?_ (by exact hHeld) ?_
  rotate_left
  · (intro wq hSw; (try dsimp only at hSw); go_simp; (try with_reducible rfl))
  (try simp only [Act.put, List.setIfInBounds_toArray, List.set_cons_zero, List.set_cons_succ])
  refine t_takeW (i := 36) (v := ?_) (by (simp only [List.getElem?_toArray, List.getElem?_cons_succ, List.getElem?_cons_zero]); rfl) (by rfl) ?_ (by exact hHeld) ?_
  rotate_left
  · (intro wq hSw; (try dsimp only at hSw); go_simp; (try with_reducible rfl))
  (try simp only [Act.put, List.setIfInBounds_toArray, List.set_cons_zero, List.set_cons_succ])
  refine t_takeW (i := 37) (v := ?_) (by (simp only [List.getElem?_toArray, List.getElem?_cons_succ, List.getElem?_cons_zero]); rfl) (by rfl) ?_ (by exact hHeld) ?_
  rotate_left
  · (intro wq hSw; (try dsimp only at hSw); go_simp; (try with_reducible rfl))
  (try simp only [Act.put, List.setIfInBounds_toArray, List.set_cons_zero, List.set_cons_succ])
  refine t_takeW (i := 38) (v := ?_) (by (simp only [List.getElem?_toArray, List.getElem?_cons_succ, List.getElem?_cons_zero]); rfl) (by rfl) ?_ (by exact hHeld) ?_
  rotate_left
  · (intro wq hSw; (try dsimp only at hSw); go_simp; (try with_reducible rfl))
  (try simp only [Act.put, List.setIfInBounds_toArray, List.set_cons_zero, List.set_cons_succ])
  refine t_takeW (i := 39) (v := ?_) (by (simp only [List.getElem?_toArray, List.getElem?_cons_succ, List.getElem?_cons_zero]); rfl) (by rfl) ?_ (by exact hHeld) ?_
  rotate_left
  · (intro wq hSw; (try dsimp only at hSw); go_simp; (try with_reducible rfl))
  (try simp only [Act.put, List.setIfInBounds_toArray, List.set_cons_zero, List.set_cons_succ])
  refine t_takeW (i := 40) (v := ?_) (by (simp only [List.getElem?_toArray, List.getElem?_cons_succ, List.getElem?_cons_zero]); rfl) (by rfl) ?_ (by exact hHeld) ?_
  rotate_left
  · (intro wq hSw; (try dsimp only at hSw); go_simp; (try with_reducible rfl))
  (try simp only [Act.put, List.setIfInBounds_toArray, List.set_cons_zero, List.set_cons_succ])
  refine t_takeW (i := 41) (v := ?_) (by (simp only [List.getElem?_toArray, List.getElem?_cons_succ, List.getElem?_cons_zero]); rfl) (by rfl) ?_ (by exact hHeld) ?_
  rotate_left
  · (intro wq hSw; (try dsimp only at hSw); go_simp; (try with_reducible rfl))
  (try simp only [Act.put, List.setIfInBounds_toArray, List.set_cons_zero, List.set_cons_succ])
  refine t_takeW (i := 42) (v := ?_) (by (simp only [List.getElem?_toArray, List.getElem?_cons_succ, List.getElem?_cons_zero]); rfl) (by rfl) ?_ (by exact hHeld) ?_
  rotate_left
  · (intro wq hSw; (try dsimp only at hSw); go_simp; (try with_reducible rfl))
  (try simp only [Act.put, List.setIfInBounds_toArray, List.set_cons_zero, List.set_cons_succ])
  refine t_takeW (i := 43) (v := ?_) (by (simp only [List.getElem?_toArray, List.getElem?_cons_succ, List.getElem?_cons_zero]); rfl) (by rfl) ?_ (by exact hHeld) ?_
  rotate_left
  · (intro wq hSw; (try dsimp only at hSw); go_simp; (try with_reducible rfl))
  (try simp only [Act.put, List.setIfInBounds_toArray, List.set_cons_zero, List.set_cons_succ])
  refine t_takeW (i := 44) (v := ?_) (by (simp only [List.getElem?_toArray, List.getElem?_cons_succ, List.getElem?_cons_zero]); rfl) (by rfl) ?_ (by exact hHeld) ?_
  rotate_left
  · (intro wq hSw; (try dsimp only at hSw); go_simp; (try with_reducible rfl))
  (try simp only [Act.put, List.setIfInBounds_toArray, List.set_cons_zero, List.set_cons_succ])
  refine t_takeW (i := 45) (v := ?_) (by (simp only [List.getElem?_toArray, List.getElem?_cons_succ, List.getElem?_cons_zero]); rfl) (by rfl) ?_ (by exact hHeld) ?_
  rotate_left
  · (intro wq hSw; (try dsimp only at hSw); go_simp; (try with_reducible rfl))
  (try simp only [Act.put, List.setIfInBounds_toArray, List.set_cons_zero, List.set_cons_succ])
  refine t_takeW (i := 46) (v := ?_) (by (simp only [List.getElem?_toArray, List.getElem?_cons_succ, List.getElem?_cons_zero]); rfl) (by rfl) ?_ (by exact hHeld) ?_
  rotate_left
  · (intro wq hSw; (try dsimp only at hSw); go_simp; (try with_reducible rfl))
  (try simp only [Act.put, List.setIfInBounds_toArray, List.set_cons_zero, List.set_cons_succ])
  refine t_takeW (i := 47) (v := ?_) (by (simp only [List.getElem?_toArray, List.getElem?_cons_succ, List.getElem?_cons_zero]); rfl) (by rfl) ?_ (by exact hHeld) ?_
  rotate_left
  · (intro wq hSw; (try dsimp only at hSw); go_simp; (try with_reducible rfl))
  (try simp only [Act.put, List.setIfInBounds_toArray, List.set_cons_zero, List.set_cons_succ])
  refine t_takeW (i := 48) (v := ?_) (by (simp only [List.getElem?_toArray, List.getElem?_cons_succ, List.getElem?_cons_zero]); rfl) (by rfl) ?_ (by exact hHeld) ?_
  rotate_left
  · (intro wq hSw; (try dsimp only at hSw); go_simp; (try with_reducible rfl))
  (try simp only [Act.put, List.setIfInBounds_toArray, List.set_cons_zero, List.set_cons_succ])
  refine t_takeW (i := 49) (v := ?_) (by (simp only [List.getElem?_toArray, List.getElem?_cons_succ, List.getElem?_cons_zero]); rfl) (by rfl) ?_ (by exact hHeld) ?_
  rotate_left
  · (intro wq hSw; (try dsimp only at hSw); go_simp; (try with_reducible rfl))
  (try simp only [Act.put, List.setIfInBounds_toArray, List.set_cons_zero, List.set_cons_succ])
  refine t_takeW (i := 50) (v := .agg #[.int .i64 exSheet.lines, .slice A4 exSheet.kept.length c4]) (by (simp only [List.getElem?_toArray, List.getElem?_cons_succ, List.getElem?_cons_zero]); rfl) (by rfl) ?_ (by exact hHeld) ?_
  · (intro wq hSw; have e0 := hSw.1.cell 0; have e1 := hSw.1.cell 1; simp at e0 e1; go_simp)
  (try simp only [Act.put, List.setIfInBounds_toArray, List.set_cons_zero, List.set_cons_succ])
  refine t_one (i := 51) (by (simp only [List.getElem?_toArray, List.getElem?_cons_succ, List.getElem?_cons_zero]); rfl) ?_
  ((refine q_callG (by rfl) (Sheet_any _) (by go_simp) ?_; rintro e Wc ⟨vs, rfl, hSh, hEx⟩; refine ⟨_, rfl, ?_⟩; (try replace hE := Ext.trans hE hEx); (try replace hC := hC.ext hEx); (try replace hB4 := hB4.ext hEx); (try replace hK4 := hK4.ext hEx); (try replace h10 := h10.ext hEx); (try replace h14 := h14.ext hEx); (try replace h16 := h16.ext hEx); (try replace hB20 := hB20.ext hEx); (try replace hK20 := hK20.ext hEx); (try replace hIb := hIb.ext hEx); (try replace hIc := hIc.ext hEx)))
  clear hHeld; refine t_next ?_ (fun hHeld => ?_)
  · (first | exact True.intro | ((try dsimp only); (repeat' apply And.intro) <;> first | assumption | (refine Ext.cell_some (Ext.todrew (Ext.refl _)) ?_; assumption)))
  (try simp only [Act.put, List.setIfInBounds_toArray, List.set_cons_zero, List.set_cons_succ])
  refine t_one (i := 52) (by (simp only [List.getElem?_toArray, List.getElem?_cons_succ, List.getElem?_cons_zero]); rfl) ?_
  ((refine q_callG (by rfl) (Sheets_ex _ _ _ (SheetV.of hK4) hSh) (by go_simp) ?_; rintro e Wc ⟨rfl, hEx⟩; refine ⟨_, rfl, ?_⟩; (try replace hE := Ext.trans hE hEx); (try replace hC := hC.ext hEx); (try replace hSh := hSh.ext hEx); (try replace hB4 := hB4.ext hEx); (try replace hK4 := hK4.ext hEx); (try replace h10 := h10.ext hEx); (try replace h14 := h14.ext hEx); (try replace h16 := h16.ext hEx); (try replace hB20 := hB20.ext hEx); (try replace hK20 := hK20.ext hEx); (try replace hIb := hIb.ext hEx); (try replace hIc := hIc.ext hEx)))
  clear hHeld; refine t_next ?_ (fun hHeld => ?_)
  · (first | exact True.intro | ((try dsimp only); (repeat' apply And.intro) <;> first | assumption | (refine Ext.cell_some (Ext.todrew (Ext.refl _)) ?_; assumption)))
  (try simp only [Act.put, List.setIfInBounds_toArray, List.set_cons_zero, List.set_cons_succ])
  refine t_takeW (i := 53) (v := ?_) (by (simp only [List.getElem?_toArray, List.getElem?_cons_succ, List.getElem?_cons_zero]); rfl) (by rfl) ?_ (by exact hHeld) ?_
  rotate_left
  · (intro wq hSw; (try dsimp only at hSw); go_simp; (try with_reducible rfl))
  (try simp only [Act.put, List.setIfInBounds_toArray, List.set_cons_zero, List.set_cons_succ])
  refine t_takeW (i := 54) (v := ?_) (by (simp only [List.getElem?_toArray, List.getElem?_cons_succ, List.getElem?_cons_zero]); rfl) (by rfl) ?_ (by exact hHeld) ?_
  rotate_left
  · (intro wq hSw; (try dsimp only at hSw); go_simp; (try with_reducible rfl))
  (try simp only [Act.put, List.setIfInBounds_toArray, List.set_cons_zero, List.set_cons_succ])
  refine t_takeW (i := 55) (v := ?_) (by (simp only [List.getElem?_toArray, List.getElem?_cons_succ, List.getElem?_cons_zero]); rfl) (by rfl) ?_ (by exact hHeld) ?_
  rotate_left
  · (intro wq hSw; (try dsimp only at hSw); go_simp; (try with_reducible rfl))
  (try simp only [Act.put, List.setIfInBounds_toArray, List.set_cons_zero, List.set_cons_succ])
  refine t_takeW (i := 56) (v := ?_) (by (simp only [List.getElem?_toArray, List.getElem?_cons_succ, List.getElem?_cons_zero]); rfl) (by rfl) ?_ (by exact hHeld) ?_
  rotate_left
  · (intro wq hSw; (try dsimp only at hSw); go_simp; (try with_reducible rfl))
  (try simp only [Act.put, List.setIfInBounds_toArray, List.set_cons_zero, List.set_cons_succ])
  refine t_takeW (i := 57) (v := ?_) (by (simp only [List.getElem?_toArray, List.getElem?_cons_succ, List.getElem?_cons_zero]); rfl) (by rfl) ?_ (by exact hHeld) ?_
  rotate_left
  · (intro wq hSw; (try dsimp only at hSw); go_simp; (try with_reducible rfl))
  (try simp only [Act.put, List.setIfInBounds_toArray, List.set_cons_zero, List.set_cons_succ])
  refine t_takeW (i := 58) (v := ?_) (by (simp only [List.getElem?_toArray, List.getElem?_cons_succ, List.getElem?_cons_zero]); rfl) (by rfl) ?_ (by exact hHeld) ?_
  rotate_left
  · (intro wq hSw; (try dsimp only at hSw); go_simp; (try with_reducible rfl))
  (try simp only [Act.put, List.setIfInBounds_toArray, List.set_cons_zero, List.set_cons_succ])
  refine t_takeW (i := 59) (v := ?_) (by (simp only [List.getElem?_toArray, List.getElem?_cons_succ, List.getElem?_cons_zero]); rfl) (by rfl) ?_ (by exact hHeld) ?_
  rotate_left
  · (intro wq hSw; (try dsimp only at hSw); go_simp; (try with_reducible rfl))
  (try simp only [Act.put, List.setIfInBounds_toArray, List.set_cons_zero, List.set_cons_succ])
  refine t_takeW (i := 60) (v := ?_) (by (simp only [List.getElem?_toArray, List.getElem?_cons_succ, List.getElem?_cons_zero]); rfl) (by rfl) ?_ (by exact hHeld) ?_
  rotate_left
  · (intro wq hSw; (try dsimp only at hSw); go_simp; (try with_reducible rfl))
  (try simp only [Act.put, List.setIfInBounds_toArray, List.set_cons_zero, List.set_cons_succ])
  refine t_takeW (i := 61) (v := ?_) (by (simp only [List.getElem?_toArray, List.getElem?_cons_succ, List.getElem?_cons_zero]); rfl) (by rfl) ?_ (by exact hHeld) ?_
  rotate_left
  · (intro wq hSw; (try dsimp only at hSw); go_simp; (try with_reducible rfl))
  (try simp only [Act.put, List.setIfInBounds_toArray, List.set_cons_zero, List.set_cons_succ])
  refine t_takeW (i := 62) (v := ?_) (by (simp only [List.getElem?_toArray, List.getElem?_cons_succ, List.getElem?_cons_zero]); rfl) (by rfl) ?_ (by exact hHeld) ?_
  rotate_left
  · (intro wq hSw; (try dsimp only at hSw); go_simp; (try with_reducible rfl))
  (try simp only [Act.put, List.setIfInBounds_toArray, List.set_cons_zero, List.set_cons_succ])
  refine t_takeW (i := 63) (v := ?_) (by (simp only [List.getElem?_toArray, List.getElem?_cons_succ, List.getElem?_cons_zero]); rfl) (by rfl) ?_ (by exact hHeld) ?_
  rotate_left
  · (intro wq hSw; (try dsimp only at hSw); go_simp; (try with_reducible rfl))
  (try simp only [Act.put, List.setIfInBounds_toArray, List.set_cons_zero, List.set_cons_succ])
  refine t_one (i := 64) (by (simp only [List.getElem?_toArray, List.getElem?_cons_succ, List.getElem?_cons_zero]); rfl) ?_
  ((refine q_bsliceG (by rfl) (e := 3) (cs := #[.int .i64 0, .int .i64 1, .int .i64 3, .int .i64 1]) ?_ ?_; (simp [Act.eval]; exact bsI4 _ 0 1 3 1); intro Wb gb hEb hBb hgb; (try replace hE := Ext.trans hE hEb); (try replace hC := hC.ext hEb); (try replace hSh := hSh.ext hEb); (try replace hB4 := hB4.ext hEb); (try replace hK4 := hK4.ext hEb); (try replace h10 := h10.ext hEb); (try replace h14 := h14.ext hEb); (try replace h16 := h16.ext hEb); (try replace hB20 := hB20.ext hEb); (try replace hK20 := hK20.ext hEb); (try replace hIc := hIc.ext hEb); have hIb := ints_blk (xs := [0, 1, 3, 1]) hBb (by decide); clear hBb hgb))
  clear hHeld; refine t_next ?_ (fun hHeld => ?_)
  · (first | exact True.intro | ((try dsimp only); (repeat' apply And.intro) <;> first | assumption | (refine Ext.cell_some (Ext.todrew (Ext.refl _)) ?_; assumption)))
  (try simp only [Act.put, List.setIfInBounds_toArray, List.set_cons_zero, List.set_cons_succ])
  refine t_one (i := 65) (by (simp only [List.getElem?_toArray, List.getElem?_cons_succ, List.getElem?_cons_zero]); rfl) ?_
  ((refine q_callG (by rfl) (Ints_ex _ _ _ _ h10 hIb) (by go_simp) ?_; rintro e Wc ⟨rfl, hEx⟩; refine ⟨_, rfl, ?_⟩; (try replace hE := Ext.trans hE hEx); (try replace hC := hC.ext hEx); (try replace hSh := hSh.ext hEx); (try replace hB4 := hB4.ext hEx); (try replace hK4 := hK4.ext hEx); (try replace h10 := h10.ext hEx); (try replace h14 := h14.ext hEx); (try replace h16 := h16.ext hEx); (try replace hB20 := hB20.ext hEx); (try replace hK20 := hK20.ext hEx); (try replace hIb := hIb.ext hEx); (try replace hIc := hIc.ext hEx)))
  clear hHeld; refine t_next ?_ (fun hHeld => ?_)
  · (first | exact True.intro | ((try dsimp only); (repeat' apply And.intro) <;> first | assumption | (refine Ext.cell_some (Ext.todrew (Ext.refl _)) ?_; assumption)))
  (try simp only [Act.put, List.setIfInBounds_toArray, List.set_cons_zero, List.set_cons_succ])
  refine t_takeW (i := 66) (v := ?_) (by (simp only [List.getElem?_toArray, List.getElem?_cons_succ, List.getElem?_cons_zero]); rfl) (by rfl) ?_ (by exact hHeld) ?_
  rotate_left
  · (intro wq hSw; (try dsimp only at hSw); go_simp; (try with_reducible rfl))
  (try simp only [Act.put, List.setIfInBounds_toArray, List.set_cons_zero, List.set_cons_succ])
  refine t_takeW (i := 67) (v := ?_) (by (simp only [List.getElem?_toArray, List.getElem?_cons_succ, List.getElem?_cons_zero]); rfl) (by rfl) ?_ (by exact hHeld) ?_
  rotate_left
  · (intro wq hSw; (try dsimp only at hSw); go_simp; (try with_reducible rfl))
  (try simp only [Act.put, List.setIfInBounds_toArray, List.set_cons_zero, List.set_cons_succ])
  refine t_takeW (i := 68) (v := ?_) (by (simp only [List.getElem?_toArray, List.getElem?_cons_succ, List.getElem?_cons_zero]); rfl) (by rfl) ?_ (by exact hHeld) ?_
  rotate_left
  · (intro wq hSw; (try dsimp only at hSw); go_simp; (try with_reducible rfl))
  (try simp only [Act.put, List.setIfInBounds_toArray, List.set_cons_zero, List.set_cons_succ])
  refine t_takeW (i := 69) (v := ?_) (by (simp only [List.getElem?_toArray, List.getElem?_cons_succ, List.getElem?_cons_zero]); rfl) (by rfl) ?_ (by exact hHeld) ?_
  rotate_left
  · (intro wq hSw; (try dsimp only at hSw); go_simp; (try with_reducible rfl))
  (try simp only [Act.put, List.setIfInBounds_toArray, List.set_cons_zero, List.set_cons_succ])
  refine t_takeW (i := 70) (v := ?_) (by (simp only [List.getElem?_toArray, List.getElem?_cons_succ, List.getElem?_cons_zero]); rfl) (by rfl) ?_ (by exact hHeld) ?_
  rotate_left
  · (intro wq hSw; (try dsimp only at hSw); go_simp; (try with_reducible rfl))
  (try simp only [Act.put, List.setIfInBounds_toArray, List.set_cons_zero, List.set_cons_succ])
  refine t_takeW (i := 71) (v := ?_) (by (simp only [List.getElem?_toArray, List.getElem?_cons_succ, List.getElem?_cons_zero]); rfl) (by rfl) ?_ (by exact hHeld) ?_
  rotate_left
  · (intro wq hSw; (try dsimp only at hSw); go_simp; (try with_reducible rfl))
  (try simp only [Act.put, List.setIfInBounds_toArray, List.set_cons_zero, List.set_cons_succ])
  refine t_one (i := 72) (by (simp only [List.getElem?_toArray, List.getElem?_cons_succ, List.getElem?_cons_zero]); rfl) ?_
  ((refine q_bsliceG (by rfl) (e := 3) (cs := #[.int .i64 4]) ?_ ?_; (simp [Act.eval]; exact bsI1 _ 4); intro Wb gb hEb hBb hgb; (try replace hE := Ext.trans hE hEb); (try replace hC := hC.ext hEb); (try replace hSh := hSh.ext hEb); (try replace hB4 := hB4.ext hEb); (try replace hK4 := hK4.ext hEb); (try replace h10 := h10.ext hEb); (try replace h14 := h14.ext hEb); (try replace h16 := h16.ext hEb); (try replace hB20 := hB20.ext hEb); (try replace hK20 := hK20.ext hEb); (try replace hIc := hIc.ext hEb); have hIb := ints_blk (xs := [4]) hBb (by decide); clear hBb hgb))
  clear hHeld; refine t_next ?_ (fun hHeld => ?_)
  · (first | exact True.intro | ((try dsimp only); (repeat' apply And.intro) <;> first | assumption | (refine Ext.cell_some (Ext.todrew (Ext.refl _)) ?_; assumption)))
  (try simp only [Act.put, List.setIfInBounds_toArray, List.set_cons_zero, List.set_cons_succ])
  refine t_one (i := 73) (by (simp only [List.getElem?_toArray, List.getElem?_cons_succ, List.getElem?_cons_zero]); rfl) ?_
  ((refine q_callG (by rfl) (Ints_ex _ _ _ _ h14 hIb) (by go_simp) ?_; rintro e Wc ⟨rfl, hEx⟩; refine ⟨_, rfl, ?_⟩; (try replace hE := Ext.trans hE hEx); (try replace hC := hC.ext hEx); (try replace hSh := hSh.ext hEx); (try replace hB4 := hB4.ext hEx); (try replace hK4 := hK4.ext hEx); (try replace h10 := h10.ext hEx); (try replace h14 := h14.ext hEx); (try replace h16 := h16.ext hEx); (try replace hB20 := hB20.ext hEx); (try replace hK20 := hK20.ext hEx); (try replace hIb := hIb.ext hEx); (try replace hIc := hIc.ext hEx)))
  clear hHeld; refine t_next ?_ (fun hHeld => ?_)
  · (first | exact True.intro | ((try dsimp only); (repeat' apply And.intro) <;> first | assumption | (refine Ext.cell_some (Ext.todrew (Ext.refl _)) ?_; assumption)))
  (try simp only [Act.put, List.setIfInBounds_toArray, List.set_cons_zero, List.set_cons_succ])
  refine t_takeW (i := 74) (v := ?_) (by (simp only [List.getElem?_toArray, List.getElem?_cons_succ, List.getElem?_cons_zero]); rfl) (by rfl) ?_ (by exact hHeld) ?_
  rotate_left
  · (intro wq hSw; (try dsimp only at hSw); go_simp; (try with_reducible rfl))
  (try simp only [Act.put, List.setIfInBounds_toArray, List.set_cons_zero, List.set_cons_succ])
  refine t_takeW (i := 75) (v := ?_) (by (simp only [List.getElem?_toArray, List.getElem?_cons_succ, List.getElem?_cons_zero]); rfl) (by rfl) ?_ (by exact hHeld) ?_
  rotate_left
  · (intro wq hSw; (try dsimp only at hSw); go_simp; (try with_reducible rfl))
  (try simp only [Act.put, List.setIfInBounds_toArray, List.set_cons_zero, List.set_cons_succ])
  refine t_takeW (i := 76) (v := ?_) (by (simp only [List.getElem?_toArray, List.getElem?_cons_succ, List.getElem?_cons_zero]); rfl) (by rfl) ?_ (by exact hHeld) ?_
  rotate_left
  · (intro wq hSw; (try dsimp only at hSw); go_simp; (try with_reducible rfl))
  (try simp only [Act.put, List.setIfInBounds_toArray, List.set_cons_zero, List.set_cons_succ])
  refine t_one (i := 77) (by (simp only [List.getElem?_toArray, List.getElem?_cons_succ, List.getElem?_cons_zero]); rfl) ?_
  ((refine q_bsliceG (by rfl) (e := 3) (cs := #[.int .i64 2]) ?_ ?_; (simp [Act.eval]; exact bsI1 _ 2); intro Wb gb hEb hBb hgb; (try replace hE := Ext.trans hE hEb); (try replace hC := hC.ext hEb); (try replace hSh := hSh.ext hEb); (try replace hB4 := hB4.ext hEb); (try replace hK4 := hK4.ext hEb); (try replace h10 := h10.ext hEb); (try replace h14 := h14.ext hEb); (try replace h16 := h16.ext hEb); (try replace hB20 := hB20.ext hEb); (try replace hK20 := hK20.ext hEb); (try replace hIc := hIc.ext hEb); have hIb := ints_blk (xs := [2]) hBb (by decide); clear hBb hgb))
  clear hHeld; refine t_next ?_ (fun hHeld => ?_)
  · (first | exact True.intro | ((try dsimp only); (repeat' apply And.intro) <;> first | assumption | (refine Ext.cell_some (Ext.todrew (Ext.refl _)) ?_; assumption)))
  (try simp only [Act.put, List.setIfInBounds_toArray, List.set_cons_zero, List.set_cons_succ])
  refine t_one (i := 78) (by (simp only [List.getElem?_toArray, List.getElem?_cons_succ, List.getElem?_cons_zero]); rfl) ?_
  ((refine q_callG (by rfl) (Ints_ex _ _ _ _ h16 hIb) (by go_simp) ?_; rintro e Wc ⟨rfl, hEx⟩; refine ⟨_, rfl, ?_⟩; (try replace hE := Ext.trans hE hEx); (try replace hC := hC.ext hEx); (try replace hSh := hSh.ext hEx); (try replace hB4 := hB4.ext hEx); (try replace hK4 := hK4.ext hEx); (try replace h10 := h10.ext hEx); (try replace h14 := h14.ext hEx); (try replace h16 := h16.ext hEx); (try replace hB20 := hB20.ext hEx); (try replace hK20 := hK20.ext hEx); (try replace hIb := hIb.ext hEx); (try replace hIc := hIc.ext hEx)))
  clear hHeld; refine t_next ?_ (fun hHeld => ?_)
  · (first | exact True.intro | ((try dsimp only); (repeat' apply And.intro) <;> first | assumption | (refine Ext.cell_some (Ext.todrew (Ext.refl _)) ?_; assumption)))
  (try simp only [Act.put, List.setIfInBounds_toArray, List.set_cons_zero, List.set_cons_succ])
  refine t_takeW (i := 79) (v := ?_) (by (simp only [List.getElem?_toArray, List.getElem?_cons_succ, List.getElem?_cons_zero]); rfl) (by rfl) ?_ (by exact hHeld) ?_
  rotate_left
  · (intro wq hSw; (try dsimp only at hSw); go_simp; (try with_reducible rfl))
  (try simp only [Act.put, List.setIfInBounds_toArray, List.set_cons_zero, List.set_cons_succ])
  refine t_takeW (i := 80) (v := ?_) (by (simp only [List.getElem?_toArray, List.getElem?_cons_succ, List.getElem?_cons_zero]); rfl) (by rfl) ?_ (by exact hHeld) ?_
  rotate_left
  · (intro wq hSw; (try dsimp only at hSw); go_simp; (try with_reducible rfl))
  (try simp only [Act.put, List.setIfInBounds_toArray, List.set_cons_zero, List.set_cons_succ])
  refine t_takeW (i := 81) (v := ?_) (by (simp only [List.getElem?_toArray, List.getElem?_cons_succ, List.getElem?_cons_zero]); rfl) (by rfl) ?_ (by exact hHeld) ?_
  rotate_left
  · (intro wq hSw; (try dsimp only at hSw); go_simp; (try with_reducible rfl))
  (try simp only [Act.put, List.setIfInBounds_toArray, List.set_cons_zero, List.set_cons_succ])
  refine t_takeW (i := 82) (v := .bool true) (by (simp only [List.getElem?_toArray, List.getElem?_cons_succ, List.getElem?_cons_zero]); rfl) (by rfl) ?_ (by exact hHeld) ?_
  · (intro wq _; kernel_rfl)
  (try simp only [Act.put, List.setIfInBounds_toArray, List.set_cons_zero, List.set_cons_succ])
  refine t_takeW (i := 83) (v := ?_) (by (simp only [List.getElem?_toArray, List.getElem?_cons_succ, List.getElem?_cons_zero]); rfl) (by rfl) ?_ (by exact hHeld) ?_
  rotate_left
  · (intro wq hSw; (try dsimp only at hSw); go_simp; (try with_reducible rfl))
  (try simp only [Act.put, List.setIfInBounds_toArray, List.set_cons_zero, List.set_cons_succ])
  refine t_takeW (i := 84) (v := ?_) (by (simp only [List.getElem?_toArray, List.getElem?_cons_succ, List.getElem?_cons_zero]); rfl) (by rfl) ?_ (by exact hHeld) ?_
  rotate_left
  · (intro wq hSw; (try dsimp only at hSw); go_simp; (try with_reducible rfl))
  (try simp only [Act.put, List.setIfInBounds_toArray, List.set_cons_zero, List.set_cons_succ])
  refine t_takeW (i := 85) (v := .agg #[.int .i64 exSheet.lines, .slice A20 exSheet.kept.length c20]) (by (simp only [List.getElem?_toArray, List.getElem?_cons_succ, List.getElem?_cons_zero]); rfl) (by rfl) ?_ (by exact hHeld) ?_
  · (intro wq hSw; have e0 := hSw.2.cell 0; have e1 := hSw.2.cell 1; simp at e0 e1; go_simp)
  (try simp only [Act.put, List.setIfInBounds_toArray, List.set_cons_zero, List.set_cons_succ])
  refine t_one (i := 86) (by (simp only [List.getElem?_toArray, List.getElem?_cons_succ, List.getElem?_cons_zero]); rfl) ?_
  ((refine q_callG (by rfl) (Sheet_any _) (by go_simp) ?_; rintro e Wc ⟨vs, rfl, hSh, hEx⟩; refine ⟨_, rfl, ?_⟩; (try replace hE := Ext.trans hE hEx); (try replace hC := hC.ext hEx); (try replace hB4 := hB4.ext hEx); (try replace hK4 := hK4.ext hEx); (try replace h10 := h10.ext hEx); (try replace h14 := h14.ext hEx); (try replace h16 := h16.ext hEx); (try replace hB20 := hB20.ext hEx); (try replace hK20 := hK20.ext hEx); (try replace hIb := hIb.ext hEx); (try replace hIc := hIc.ext hEx)))
  clear hHeld; refine t_next ?_ (fun hHeld => ?_)
  · (first | exact True.intro | ((try dsimp only); (repeat' apply And.intro) <;> first | assumption | (refine Ext.cell_some (Ext.todrew (Ext.refl _)) ?_; assumption)))
  (try simp only [Act.put, List.setIfInBounds_toArray, List.set_cons_zero, List.set_cons_succ])
  refine t_one (i := 87) (by (simp only [List.getElem?_toArray, List.getElem?_cons_succ, List.getElem?_cons_zero]); rfl) ?_
  ((refine q_callG (by rfl) (Sheets_ex _ _ _ (SheetV.of hK20) hSh) (by go_simp) ?_; rintro e Wc ⟨rfl, hEx⟩; refine ⟨_, rfl, ?_⟩; (try replace hE := Ext.trans hE hEx); (try replace hC := hC.ext hEx); (try replace hSh := hSh.ext hEx); (try replace hB4 := hB4.ext hEx); (try replace hK4 := hK4.ext hEx); (try replace h10 := h10.ext hEx); (try replace h14 := h14.ext hEx); (try replace h16 := h16.ext hEx); (try replace hB20 := hB20.ext hEx); (try replace hK20 := hK20.ext hEx); (try replace hIb := hIb.ext hEx); (try replace hIc := hIc.ext hEx)))
  clear hHeld; refine t_next ?_ (fun hHeld => ?_)
  · (first | exact True.intro | ((try dsimp only); (repeat' apply And.intro) <;> first | assumption | (refine Ext.cell_some (Ext.todrew (Ext.refl _)) ?_; assumption)))
  (try simp only [Act.put, List.setIfInBounds_toArray, List.set_cons_zero, List.set_cons_succ])
  refine t_takeW (i := 88) (v := ?_) (by (simp only [List.getElem?_toArray, List.getElem?_cons_succ, List.getElem?_cons_zero]); rfl) (by rfl) ?_ (by exact hHeld) ?_
  rotate_left
  · (intro wq hSw; (try dsimp only at hSw); go_simp; (try with_reducible rfl))
  (try simp only [Act.put, List.setIfInBounds_toArray, List.set_cons_zero, List.set_cons_succ])
  refine t_takeW (i := 89) (v := ?_) (by (simp only [List.getElem?_toArray, List.getElem?_cons_succ, List.getElem?_cons_zero]); rfl) (by rfl) ?_ (by exact hHeld) ?_
  rotate_left
  · (intro wq hSw; (try dsimp only at hSw); go_simp; (try with_reducible rfl))
  (try simp only [Act.put, List.setIfInBounds_toArray, List.set_cons_zero, List.set_cons_succ])
  refine t_done ?_
  go_wp2
  go_ret
  exact ⟨rfl, hE⟩
end Go.Bp
end
section
set_option maxRecDepth 100000
set_option linter.unusedSimpArgs false
set_option linter.unusedVariables false
namespace Go.Bp
open Go.RowKit Go.Proofs
end Go.Bp
end
section
/- The arguments of the rows opened: what is read is a code, a sheet, a list. -/
set_option maxRecDepth 100000
namespace Go.Bp
open Go.RowKit Go.Proofs Go.ChangeShapes Go.WideShapes Go.ChangeAt
section
variable {H : Type} {enc : TypeId × Value → H} {w : World} {b0 : Nat}
theorem cells_flat {α : Type} (f : α → List Value) (size : Nat) (hf : ∀ a, (f a).length = size) {a : Addr} : ∀ (xs : List α) (i0 : Nat),
    (∀ (i : Nat) (hi : i < xs.length), Cells w (a.add ((i0 + i) * size)) (f xs[i])) → Cells w (a.add (i0 * size)) (xs.flatMap f)
  | [], i0, _ => by simpa using Cells.nil w _
  | x :: xs, i0, h => by
    have h0 := h 0 (by simp)
    have ih := cells_flat f size hf (a := a) xs (i0 + 1) (fun i hi => by
      have := h (i + 1) (by simpa using hi)
      rw [show i0 + 1 + i = i0 + (i + 1) by omega]
      simpa using this)
    intro j u hu
    simp only [List.flatMap_cons] at hu
    by_cases hj : j < size
    · rw [List.getElem?_append_left (by rw [hf]; exact hj)] at hu
      have := h0 j u (by simpa using hu)
      simpa using this
    · rw [List.getElem?_append_right (by rw [hf]; omega), hf] at hu
      have := ih (j - size) u hu
      rw [add_of_add] at this ⊢
      rwa [show (i0 + 1) * size + (j - size) = i0 * size + j by rw [Nat.add_mul]; omega] at this
theorem open_flat {α : Type} {t e : TypeId} {size fuel : Nat} {cs : List Value} {x : DataW H × List MemPlace} (f : α → List Value) (good : α → Prop) (hf : ∀ a, (f a).length = size)
    (ht : Tryz.prog.underlying t = some (.slice e)) (hc : Tryz.prog.cellsOf e = size)
    (hel : ∀ (n : Nat) (c1 : List Value) (y : DataW H × List MemPlace), DataW.trod enc Tryz.prog w 0 (fun _ => true) true n e c1 = some y → ∃ a, c1 = f a ∧ good a)
    (h : DataW.trod enc Tryz.prog w 0 (fun _ => true) true fuel t cs = some x) : ∃ (v : Value) (xs : List α), cs = [v] ∧ Sl w size v xs.length (xs.flatMap f) ∧ ∀ a ∈ xs, good a := by
  rcases DataW.trod_slice ht h with ⟨rfl, _⟩ | ⟨ad, len, cap, elems, rest, n, _, rfl, _, _, hl, hm, hlen, hE, _, _⟩
  · exact ⟨_, [], rfl, Sl.none_ w size, by simp⟩
  have each : ∀ i : Fin len, ∃ a : α, Cells w (ad.add (i.1 * size)) (f a) ∧ good a := by
    rintro ⟨i, hi⟩
    have h1 := hE i hi
    rw [List.getElem?_eq_getElem (by omega), Option.bind_eq_some_iff, hc] at h1
    obtain ⟨c1, hc1, hy⟩ := h1
    obtain ⟨a, rfl, hg⟩ := hel _ _ _ hy
    obtain ⟨_, h3, h4⟩ := World.cells?_some hc1
    refine ⟨a, fun j u hu => ?_, hg⟩
    rw [h4 j (by have := (List.getElem?_eq_some_iff.1 hu).1; omega)]
    exact hu
  obtain ⟨g, hg⟩ := Classical.axiomOfChoice each
  refine ⟨_, List.ofFn g, rfl, ?_, ?_⟩
  · refine ⟨some ad, cap, by simp, by simpa using hl, hm, ?_, fun _ => ⟨ad, rfl, ?_⟩⟩
    · have : ∀ l : List α, (l.flatMap f).length = l.length * size := by
        intro l
        induction l with
        | nil => simp
        | cons y ys ih => simp [hf, ih, Nat.add_mul]; omega
      exact this _
    · have := cells_flat (w := w) f size hf (a := ad) (List.ofFn g) 0 (fun i hi => by
        have hi' : i < len := by simpa using hi
        have := (hg ⟨i, hi'⟩).1
        simpa using this)
      simpa [Addr.add] using this
  · intro a ha
    obtain ⟨i, rfl⟩ := List.mem_ofFn.1 ha
    exact (hg i).2
theorem encS_flat (xs : List ByteArray) : xs.flatMap (fun n => [Value.string n]) = encS xs := by induction xs <;> simp_all [encS]
theorem encF_flat (xs : List Fault) : xs.flatMap (fun f => [Value.string f.name, .int .i64 f.points, .int .i64 f.limit]) = encF xs := by induction xs <;> simp_all [encF]
theorem encL_flat (xs : List Line) : xs.flatMap (fun x => [Value.int .i64 x.no, .int .i64 x.what, .int .i64 x.sum]) = encL xs := by induction xs <;> simp_all [encL]
theorem cellsOf3 : Tryz.prog.cellsOf 3 = 1 := by kernel_rfl
theorem cellsOf9 : Tryz.prog.cellsOf 9 = 1 := by kernel_rfl
theorem cellsOf74 : Tryz.prog.cellsOf 74 = 3 := by kernel_rfl
theorem cellsOf99 : Tryz.prog.cellsOf 99 = 3 := by kernel_rfl
theorem cellsOf25 : Tryz.prog.cellsOf 25 = 3 := by kernel_rfl
theorem cellsOf39 : Tryz.prog.cellsOf 39 = 2 := by kernel_rfl
theorem cellsOf22 : Tryz.prog.cellsOf 22 = 1 := by kernel_rfl
theorem cellsOf23 : Tryz.prog.cellsOf 23 = 1 := by kernel_rfl
theorem cellsOf37 : Tryz.prog.cellsOf 37 = 1 := by kernel_rfl
theorem at_int {n : Nat} {cs : List Value} {x : DataW H × List MemPlace} (h : DataW.trod enc Tryz.prog w 0 (fun _ => true) true n 3 cs = some x) : ∃ k, cs = [.int .i64 k] := by
  obtain ⟨k, h1, _, _⟩ := DataW.trod_int Tryz.underlying3 h; exact ⟨k, h1⟩
theorem at_strs {n : Nat} {cs : List Value} {x : DataW H × List MemPlace} (h : DataW.trod enc Tryz.prog w 0 (fun _ => true) true n 23 cs = some x) : ∃ v xs, cs = [v] ∧ Strs w v xs ∧ ∀ s ∈ xs, s.size ≤ maxLen := by
  obtain ⟨v, xs, h1, h2, h3⟩ := open_flat (fun n : ByteArray => [Value.string n]) (fun s => s.size ≤ maxLen) (fun _ => rfl) Tryz.underlying23 cellsOf9 (fun n c1 y hy => by obtain ⟨k, hk, _, hs⟩ := DataW.trod_string Tryz.underlying9 hy; exact ⟨k, hk, hs⟩) h
  rw [encS_flat] at h2; exact ⟨v, xs, h1, h2, h3⟩
theorem three {c0 c1 c2 : Value} {cs : List Value} (hl : cs.length = 3) (h0 : (cs.drop 0).take 1 = [c0]) (h1 : (cs.drop 1).take 1 = [c1]) (h2 : (cs.drop 2).take 1 = [c2]) : cs = [c0, c1, c2] := by
  match cs, hl with
  | [x, y, z], _ => simp at h0 h1 h2; simp [h0, h1, h2]
theorem at_faults {n : Nat} {cs : List Value} {x : DataW H × List MemPlace} (h : DataW.trod enc Tryz.prog w 0 (fun _ => true) true n 22 cs = some x) : ∃ v xs, cs = [v] ∧ Faults w v xs ∧ ∀ f ∈ xs, f.name.size ≤ maxLen := by
  obtain ⟨v, xs, h1, h2, h3⟩ := open_flat (fun f : Fault => [Value.string f.name, .int .i64 f.points, .int .i64 f.limit]) (fun f => f.name.size ≤ maxLen) (fun _ => rfl) Tryz.underlying22 cellsOf74 (fun n c1 y hy => by
    obtain ⟨xs, m, _, _, hl, hx, hE⟩ := DataW.trod_struct Tryz.underlying74 hy
    rw [cellsOf74] at hl
    have hx3 : xs.length = 3 := hx
    have e0 : DataW.trod enc Tryz.prog w 0 (fun _ => true) true m 9 ((c1.drop 0).take (Tryz.prog.cellsOf 9)) = xs[0]? := hE 0 _ rfl; have e1 : DataW.trod enc Tryz.prog w 0 (fun _ => true) true m 3 ((c1.drop 1).take (Tryz.prog.cellsOf 3)) = xs[1]? := hE 1 _ rfl; have e2 : DataW.trod enc Tryz.prog w 0 (fun _ => true) true m 3 ((c1.drop 2).take (Tryz.prog.cellsOf 3)) = xs[2]? := hE 2 _ rfl
    rw [cellsOf9] at e0; rw [cellsOf3] at e1 e2
    rw [List.getElem?_eq_getElem (by omega)] at e0 e1 e2
    obtain ⟨s, hs, _, hz⟩ := DataW.trod_string Tryz.underlying9 e0
    obtain ⟨p, hp⟩ := at_int e1
    obtain ⟨q, hq⟩ := at_int e2
    exact ⟨⟨s, p, q⟩, three hl hs hp hq, hz⟩) h
  rw [encF_flat] at h2; exact ⟨v, xs, h1, h2, h3⟩
theorem at_lines {n : Nat} {cs : List Value} {x : DataW H × List MemPlace} (h : DataW.trod enc Tryz.prog w 0 (fun _ => true) true n 37 cs = some x) : ∃ v xs, cs = [v] ∧ Lines w v xs := by
  obtain ⟨v, xs, h1, h2, h3⟩ := open_flat (fun f : Line => [Value.int .i64 f.no, .int .i64 f.what, .int .i64 f.sum]) (fun _ => True) (fun _ => rfl) Tryz.underlying37 cellsOf99 (fun n c1 y hy => by
    obtain ⟨xs, m, _, _, hl, hx, hE⟩ := DataW.trod_struct Tryz.underlying99 hy
    rw [cellsOf99] at hl
    have hx3 : xs.length = 3 := hx
    have e0 : DataW.trod enc Tryz.prog w 0 (fun _ => true) true m 3 ((c1.drop 0).take (Tryz.prog.cellsOf 3)) = xs[0]? := hE 0 _ rfl; have e1 : DataW.trod enc Tryz.prog w 0 (fun _ => true) true m 3 ((c1.drop 1).take (Tryz.prog.cellsOf 3)) = xs[1]? := hE 1 _ rfl; have e2 : DataW.trod enc Tryz.prog w 0 (fun _ => true) true m 3 ((c1.drop 2).take (Tryz.prog.cellsOf 3)) = xs[2]? := hE 2 _ rfl
    rw [cellsOf3] at e0 e1 e2
    rw [List.getElem?_eq_getElem (by omega)] at e0 e1 e2
    obtain ⟨s, hs⟩ := at_int e0
    obtain ⟨p, hp⟩ := at_int e1
    obtain ⟨q, hq⟩ := at_int e2
    exact ⟨⟨s, p, q⟩, three hl hs hp hq, trivial⟩) h
  rw [encL_flat] at h2; exact ⟨v, xs, h1, h2⟩
theorem arg_code {v : Value} {d : DataW H} {p : List MemPlace} (hv : Value.okWide Tryz.prog w .any b0 25 v) (h : DataW.Trod enc Tryz.prog w 0 (fun _ => true) true 25 v d p) : ∃ c, CodeV w v c := by
  obtain ⟨cs, rfl, hcs⟩ := okWide_struct Tryz.underlying25 hv
  obtain ⟨fuel, hf⟩ := h
  obtain ⟨xs, m, _, _, hl, hx, hE⟩ := DataW.trod_struct Tryz.underlying25 hf
  rw [cellsOf25] at hl
  have hx3 : xs.length = 3 := hx
  have e0 : DataW.trod enc Tryz.prog w 0 (fun _ => true) true m 22 (((Value.agg cs).cells.toList.drop 0).take (Tryz.prog.cellsOf 22)) = xs[0]? := hE 0 _ rfl; have e1 : DataW.trod enc Tryz.prog w 0 (fun _ => true) true m 23 (((Value.agg cs).cells.toList.drop 1).take (Tryz.prog.cellsOf 23)) = xs[1]? := hE 1 _ rfl; have e2 : DataW.trod enc Tryz.prog w 0 (fun _ => true) true m 3 (((Value.agg cs).cells.toList.drop 2).take (Tryz.prog.cellsOf 3)) = xs[2]? := hE 2 _ rfl
  rw [cellsOf22] at e0; rw [cellsOf23] at e1; rw [cellsOf3] at e2
  rw [List.getElem?_eq_getElem (by omega)] at e0 e1 e2
  obtain ⟨fv, fs, h0, hF, hz⟩ := at_faults e0
  obtain ⟨mv, ms, h1, hM, hy⟩ := at_strs e1
  obtain ⟨al, h2⟩ := at_int e2
  have := three hl h0 h1 h2
  refine ⟨⟨fs, ms, al⟩, fv, mv, ?_, hF, hM, ?_⟩
  · have : cs = #[fv, mv, .int .i64 al] := by apply Array.ext'; simpa [Value.cells] using this
    rw [this]
  · intro s hs
    rcases List.mem_append.1 (show s ∈ fs.map (·.name) ++ ms from hs) with h | h
    · obtain ⟨f, hf, rfl⟩ := List.mem_map.1 h; exact hz f hf
    · exact hy s h
theorem arg_sheet {v : Value} {d : DataW H} {p : List MemPlace} (hv : Value.okWide Tryz.prog w .any b0 39 v) (h : DataW.Trod enc Tryz.prog w 0 (fun _ => true) true 39 v d p) : ∃ s, SheetV w v s := by
  obtain ⟨cs, rfl, hcs⟩ := okWide_struct Tryz.underlying39 hv
  obtain ⟨fuel, hf⟩ := h
  obtain ⟨xs, m, _, _, hl, hx, hE⟩ := DataW.trod_struct Tryz.underlying39 hf
  rw [cellsOf39] at hl
  have hx3 : xs.length = 2 := hx
  have e0 : DataW.trod enc Tryz.prog w 0 (fun _ => true) true m 3 (((Value.agg cs).cells.toList.drop 0).take (Tryz.prog.cellsOf 3)) = xs[0]? := hE 0 _ rfl; have e1 : DataW.trod enc Tryz.prog w 0 (fun _ => true) true m 37 (((Value.agg cs).cells.toList.drop 1).take (Tryz.prog.cellsOf 37)) = xs[1]? := hE 1 _ rfl
  rw [cellsOf3] at e0; rw [cellsOf37] at e1
  rw [List.getElem?_eq_getElem (by omega)] at e0 e1
  obtain ⟨n, h0⟩ := at_int e0
  obtain ⟨kv, ls, h1, hK⟩ := at_lines e1
  refine ⟨⟨n, ls⟩, kv, ?_, hK⟩
  have : cs = #[.int .i64 n, kv] := by
    apply Array.ext'
    have hl' : cs.toList.length = 2 := by simpa [Value.cells] using hl
    have h0' : (cs.toList.drop 0).take 1 = [.int .i64 n] := by simpa [Value.cells] using h0
    have h1' : (cs.toList.drop 1).take 1 = [kv] := by simpa [Value.cells] using h1
    match hcl : cs.toList, hl', h0', h1' with
    | [x, y], _, h0', h1' => simp at h0' h1'; simp [h0', h1']
  rw [this]
end
end Go.Bp
end
section
/- The surroundings: what the rows list, read off the world; the row's wrap with the world's shape. -/
set_option maxRecDepth 100000
namespace Go.Bp
open Go.RowKit Go.Proofs Go.ChangeShapes Go.WideShapes Go.ChangeAt
def listed : List (String × DataW Unit) := Go.Proofs.YthomnkgiaapljaaGreatDoor.Rows.sheetKeepsRow.laid
theorem star_err : "*" ++ "errors.errorString" = "*errors.errorString" := by decide
theorem row192 (u : TypeId) (h : Tryz.prog.typeName? 3 u = some "*errors.errorString") : u = 192 :=
  typeName_ptr_named (nm := "errors.errorString") (by rw [star_err]; kernel_rfl) (by kernel_rfl) (by decide) u (by rw [star_err]; exact h)
theorem env_of {W : World} (h : laidMetH Tryz.prog listed W) (hs : W.ShapedOpen Tryz.prog) : Env W := by
  rw [MakeChecks.laidMetH_plain _ _ _ (by kernel_rfl)] at h
  have h2 := h.tail.tail
  have h4 := h2.tail.tail
  have h5 := h4.tail
  have tab := Lib.tabIs_of_head (zs := Lib.pow10Tab) (k := .u64) (g := 0) (t := 173) (n := 20) (e := 158) (by kernel_rfl) (by kernel_rfl) Tryz.underlying173 Tryz.underlying158 (by kernel_rfl) (by kernel_rfl) h2
  obtain ⟨a1, s1, hv1, _⟩ := laid_sentinel h4 (show Tryz.prog.globalNamed "strconv.ErrRange" = some 3 by kernel_rfl) (ti := 117) (by kernel_rfl) Tryz.underlying117 row192 Tryz.underlying192 Tryz.underlying194 rfl rfl Tryz.underlying9 (by kernel_rfl) (by kernel_rfl)
  obtain ⟨a2, s2, hv2, _⟩ := laid_sentinel h5 (show Tryz.prog.globalNamed "strconv.ErrSyntax" = some 2 by kernel_rfl) (ti := 117) (by kernel_rfl) Tryz.underlying117 row192 Tryz.underlying192 Tryz.underlying194 rfl rfl Tryz.underlying9 (by kernel_rfl) (by kernel_rfl)
  refine ⟨?_, ?_, ?_, tab⟩
  · exact cell_of_shapedOpen_int (P := Tryz.prog) (g := 1) (t := 3) (zero := #[.int .i64 0]) hs (of_decide_eq_true (by kernel_rfl)) (by kernel_rfl) rfl (by kernel_rfl) (by kernel_rfl) Tryz.underlying3
  · exact ⟨_, _, by simpa using World.var?_cell (show Tryz.prog.globalNamed "strconv.ErrSyntax" = some 2 by kernel_rfl) hv2 0⟩
  · exact ⟨_, _, by simpa using World.var?_cell (show Tryz.prog.globalNamed "strconv.ErrRange" = some 3 by kernel_rfl) hv1 0⟩
/-- As 'returnsInHanded_of_change_and'; the world's shape is handed on. -/
theorem handed_shaped {H : Type} {enc : TypeId × Value → H} {a : Assume} {C : Checked} {os : Os} {f : FuncId} {fn : Func} {s : ChangeSpec} {conds : List PathCond} {apart fresh handsOn again : Bool} {X : World → Array Value → Prop}
    (hX : ∀ (w w' : World) (args : Array Value), w.heap = w'.heap → X w args → X w' args)
    (own : ownKnob C.prog.godebug = none) (started : os.Started) (noInit : C.prog.inits.idxOf? f = none) (hfn : C.prog.funcs[f]? = some fn)
    (witness : ∃ (w : World) (tape : Tape) (i : Input), w.os = os ∧ (w.forCall tape i).Shaped C.prog ∧ i.vars = [] ∧ Input.okWide C.prog (w.forCall tape i) .any w.heap.size f i ∧
      ((s.pre enc C.prog fn conds apart (w.forCall tape i).memory i.args ∧ X (w.forCall tape i).memory i.args) ∧ sizedMet enc C.prog fn (OpenSpec.ofChange s) apart (w.forCall tape i).memory i.args) ∧ a.holds C.prog (lone (Frame.enter C.prog f i.args .normal) [] (w.forCall tape i)))
    (contract : ∀ (W : World) (base : Nat) (args : Array Value) (ds gs : List (DataW H)) (before : List MemPlace),
      (∀ (j : Nat) t v, fn.params[j]? = some t → args[j]? = some v → Value.okWide C.prog W .any base t v) →
      DataW.Whole enc C.prog fn.params.toList s.vars apart W args.toList ds gs before → X W args → W.ShapedOpen C.prog →
      Calls C.prog f args W fun e W' => ∃ v, e = .returned v ∧ s.post enc C.prog fn apart fresh handsOn again W args v W') :
    ReturnsInHanded a C os f .any (fun w args => (s.pre enc C.prog fn conds apart w args ∧ X w args) ∧ sizedMet enc C.prog fn (OpenSpec.ofChange s) apart w args) (s.post enc C.prog fn apart fresh handsOn again) := by
  refine returnsInHanded_of_calls own started noInit witness ?_
  intro w tape i _ hsh _ hok hpre hholds
  obtain ⟨_, _, _, fn', hfn', _, _, _, _, hval⟩ := hok
  have e : fn' = fn := Option.some.inj (hfn'.symm.trans hfn)
  subst e
  obtain ⟨⟨⟨ds, gs, before, hw, hc⟩, hx⟩, hz⟩ := hpre
  have hw' := DataW.Whole.of_heap (w' := w.forCall tape i) (by rfl) hw
  refine (contract (w.forCall tape i) w.heap.size i.args ds gs before hval hw' (hX _ _ _ (by rfl) hx) hsh).mono fun e W' ⟨v, he, hp⟩ => ?_
  subst he
  exact ChangeSpec.post_blind hp
theorem own_knob : ownKnob Tryz.prog.godebug = none := by kernel_rfl
theorem laid_out : laidOutB Tryz.prog = true := by kernel_rfl
end Go.Bp
end
section
set_option maxRecDepth 100000
set_option linter.unusedSimpArgs false
set_option linter.unusedVariables false
namespace Go.Bp
open Go.RowKit Go.Proofs
def validB (c : Code) (s : Sheet) : Bool := decide (s.asked c = 0)
set_option maxHeartbeats 2000000 in
theorem valid_any (cv sv : Value) (c : Code) (s : Sheet) (w : World) (h : CodeV w cv c) (hsv : SheetV w sv s) :
    Calls Tryz.prog 46 #[cv, sv] w fun e w' => e = .returned (.bool (validB c s)) ∧ Ext w w' := by
  obtain ⟨fv, mv, rfl, hF, hM, hW⟩ := h
  have hE := Ext.refl w
  have HW := Lib.hid hW
  clear hW
  obtain ⟨kv, rfl, hK⟩ := hsv
  obtain ⟨A, cp, rfl, _, _, _, _⟩ := id hK
  obtain ⟨⟨y1, y2, er⟩, h1⟩ : ∃ x, c.check = x := ⟨_, rfl⟩
  have H1 := Lib.hid h1
  by_cases he : er = 0
  · have ho := Code.ok_of_check (show c.check.2.2 = 0 by rw [h1]; exact he)
    have Hv := Lib.hid (show validB c s = decide (s.err c = 0) by unfold validB Sheet.asked; simp [h1, he])
    subst he
    obtain ⟨ev, hev⟩ : ∃ e, s.err c = e := ⟨_, rfl⟩
    have Hev := Lib.hid hev; have Ho := Lib.hid ho
    rw [hev] at Hv
    clear h1 hev ho
    go_enter Tryz.func46, Tryz.ntmps46
    go_wp2_with (first | ((go_at_call 18; refine (RCheck_any _ c _ (CodeV.of hF hM HW.out)).mono ?_; rw [H1.out]; rintro e Wc ⟨rfl, hEx⟩; replace hE := Ext.trans hE hEx; replace hF := hF.ext hEx; replace hM := hM.ext hEx; replace hK := hK.ext hEx; (try replace hb2_0 := Ext.cell_some hEx hb2_0); (try replace hb2_1 := Ext.cell_some hEx hb2_1); (try replace hb2_2 := Ext.cell_some hEx hb2_2); (try replace hb3_0 := Ext.cell_some hEx hb3_0); (try replace hb3_1 := Ext.cell_some hEx hb3_1); clear hEx)) | ((go_at_call 96; refine (RSheet_any _ _ c s _ (CodeV.of hF hM HW.out) (SheetV.of hK) Ho.out).mono ?_; rw [Hev.out]; rintro e Wc ⟨rfl, hEx⟩; replace hE := Ext.trans hE hEx; clear hEx)) | ((with_reducible refine q_box (d := some 2) ?_); intro W2 g2 hE2 hB2 hg2; simp [Act.eval, Act.put, Value.cells] at hB2; (try replace hE := hE.trans hE2); (try replace hF := hF.ext hE2); (try replace hM := hM.ext hE2); (try replace hK := hK.ext hE2); (try replace hB2 := hB2.ext hE2); (try replace hB3 := hB3.ext hE2); (try replace hb2_0 := Ext.cell_some hE2 hb2_0); (try replace hb2_1 := Ext.cell_some hE2 hb2_1); (try replace hb2_2 := Ext.cell_some hE2 hb2_2); (try replace hb3_0 := Ext.cell_some hE2 hb3_0); (try replace hb3_1 := Ext.cell_some hE2 hb3_1); have hb2_0 := hB2.cell 0; have hb2_1 := hB2.cell 1; have hb2_2 := hB2.cell 2; simp at hb2_0 hb2_1 hb2_2; clear hE2) | ((with_reducible refine q_box (d := some 3) ?_); intro W3 g3 hE3 hB3 hg3; simp [Act.eval, Act.put, Value.cells] at hB3; (try replace hE := hE.trans hE3); (try replace hF := hF.ext hE3); (try replace hM := hM.ext hE3); (try replace hK := hK.ext hE3); (try replace hB2 := hB2.ext hE3); (try replace hB3 := hB3.ext hE3); (try replace hb2_0 := Ext.cell_some hE3 hb2_0); (try replace hb2_1 := Ext.cell_some hE3 hb2_1); (try replace hb2_2 := Ext.cell_some hE3 hb2_2); (try replace hb3_0 := Ext.cell_some hE3 hb3_0); (try replace hb3_1 := Ext.cell_some hE3 hb3_1); have hb3_0 := hB3.cell 0; have hb3_1 := hB3.cell 1; simp at hb3_0 hb3_1; clear hE3))
    go_ret
    exact ⟨by rw [Hv.out]; by_cases e : ev = 0 <;> simp [e], hE⟩
  · have Hv := Lib.hid (show validB c s = false by unfold validB Sheet.asked; simp [h1, he])
    have q : (er == 0) = false := by simp [he]
    clear h1 he
    go_enter Tryz.func46, Tryz.ntmps46
    go_wp2_with (first | ((go_at_call 18; refine (RCheck_any _ c _ (CodeV.of hF hM HW.out)).mono ?_; rw [H1.out]; rintro e Wc ⟨rfl, hEx⟩; replace hE := Ext.trans hE hEx; clear hEx)) | ((with_reducible refine q_box (d := some 2) ?_); intro W2 g2 hE2 hB2 hg2; simp [Act.eval, Act.put, Value.cells] at hB2; (try replace hE := hE.trans hE2); (try replace hF := hF.ext hE2); (try replace hM := hM.ext hE2); (try replace hK := hK.ext hE2); (try replace hB2 := hB2.ext hE2); (try replace hB3 := hB3.ext hE2); (try replace hb2_0 := Ext.cell_some hE2 hb2_0); (try replace hb2_1 := Ext.cell_some hE2 hb2_1); (try replace hb2_2 := Ext.cell_some hE2 hb2_2); (try replace hb3_0 := Ext.cell_some hE2 hb3_0); (try replace hb3_1 := Ext.cell_some hE2 hb3_1); have hb2_0 := hB2.cell 0; have hb2_1 := hB2.cell 1; have hb2_2 := hB2.cell 2; simp at hb2_0 hb2_1 hb2_2; clear hE2) | ((with_reducible refine q_box (d := some 3) ?_); intro W3 g3 hE3 hB3 hg3; simp [Act.eval, Act.put, Value.cells] at hB3; (try replace hE := hE.trans hE3); (try replace hF := hF.ext hE3); (try replace hM := hM.ext hE3); (try replace hK := hK.ext hE3); (try replace hB2 := hB2.ext hE3); (try replace hB3 := hB3.ext hE3); (try replace hb2_0 := Ext.cell_some hE3 hb2_0); (try replace hb2_1 := Ext.cell_some hE3 hb2_1); (try replace hb2_2 := Ext.cell_some hE3 hb2_2); (try replace hb3_0 := Ext.cell_some hE3 hb3_0); (try replace hb3_1 := Ext.cell_some hE3 hb3_1); have hb3_0 := hB3.cell 0; have hb3_1 := hB3.cell 1; simp at hb3_0 hb3_1; clear hE3))
    go_ret
    exact ⟨by rw [Hv.out]; rfl, hE⟩
/-- What chosen answers: those of the lines whose bits stand. -/
def bitAt (b : Int) (i : Nat) : Bool := (b / 2 ^ min i 8).tmod 2 == 1
def chosenTo (l : List Int) (b : Int) (k : Nat) : List Int := ((List.range k).filter (bitAt b)).map fun i => l.getD i 0
def chosenOf (s : Sheet) (b : Int) : List Int := chosenTo s.lost b s.lost.length
theorem chosenTo_succ (l : List Int) (b : Int) {k : Nat} (hk : k < l.length) : chosenTo l b (k + 1) = if bitAt b k = true then chosenTo l b k ++ [l[k]] else chosenTo l b k := by
  unfold chosenTo
  rw [List.range_succ, List.filter_append, List.map_append]
  by_cases h : bitAt b k = true
  · simp [h, List.getD, hk]
  · simp [h]
theorem chosenTo_len (l : List Int) (b : Int) (k : Nat) : (chosenTo l b k).length ≤ k := by
  unfold chosenTo
  rw [List.length_map]
  exact Nat.le_trans (List.length_filter_le _ _) (by simp)
theorem OwnI.lower {B B' : Nat} {w : World} {v : Value} {xs : List Int} (h : OwnI B w v xs) (hB : B' ≤ B) : OwnI B' w v xs := by
  obtain ⟨h1, h2⟩ := h
  refine ⟨h1, ?_⟩
  rcases h2 with h2 | ⟨g, cap, cur, ha, hb, hc⟩
  · exact .inl h2
  · exact .inr ⟨g, cap, cur, ha, Nat.le_trans hB hb, hc⟩
theorem lost_short (s : Sheet) (m : Nat) (h : s.lines = m) : s.lost.length ≤ m := by
  unfold Sheet.lost
  refine Nat.le_trans (List.length_filter_le _ _) ?_
  rw [h]; simp [numbers]
set_option maxHeartbeats 2000000 in
theorem chosen_any (sv : Value) (s : Sheet) (b : Int) (w : World) (hsv : SheetV w sv s) (m : Nat) (hm : s.lines = m) (hm2 : m ≤ 1000) (hb0 : 0 ≤ b) (hb1 : b ≤ 255) :
    Calls Tryz.prog 48 #[sv, .int .u8 b] w (Ret w fun v w' => OwnI w.heap.size w' v (chosenOf s b)) := by
  have hE := Ext.refl w
  obtain ⟨kv, rfl, hK⟩ := hsv
  obtain ⟨A, cp, rfl, _, _, _, _⟩ := id hK
  have hl1k : s.lost.length ≤ 1000 := Nat.le_trans (lost_short s m hm) hm2
  have Hm := Lib.hid hm
  clear hm
  go_enter Tryz.func48, Tryz.ntmps48
  go_wp2_with (first | ((go_at_call 47; refine (Lost_any _ s m _ (SheetV.of hK) Hm.out hm2).mono ?_; rintro e Wl ⟨lv, rfl, hL, hEx⟩; replace hE := Ext.trans hE hEx; clear hEx)) | ((with_reducible refine q_box (d := some 2) ?_); intro W2 g2 hE2 hB2 hg2; simp [Act.eval, Act.put, Value.cells] at hB2; (try replace hE := hE.trans hE2); (try replace hK := hK.ext hE2); (try replace hB2 := hB2.ext hE2); (try replace hb2_0 := Ext.cell_some hE2 hb2_0); (try replace hb2_1 := Ext.cell_some hE2 hb2_1); have hb2_0 := hB2.cell 0; have hb2_1 := hB2.cell 1; simp at hb2_0 hb2_1; clear hE2))
  have hll := s.lost.length
  obtain ⟨Al, cl, rfl, l1, l2, l3, l4⟩ := hL.ints
  unfold maxLen at l2
  have HL := Lib.hid hL
  clear l3 hL hll
  go_loopw [6, 7] (fun v i Wr => Ext Wl Wr ∧ ∃ k : Nat, k ≤ s.lost.length ∧ i = .int .i64 k ∧ OwnI Wl.heap.size Wr v (chosenTo s.lost b k)) (fun _ i _ => s.lost.length - (intOf i).toNat)
  case atStart => exact ⟨Ext.refl _, 0, by omega, rfl, OwnI.nil _ _⟩
  case round =>
    obtain ⟨hEr, k, hk, rfl, hO⟩ := hrel
    by_cases hlt : k < s.lost.length
    · obtain ⟨ad, rfl, hca⟩ := l4 (by omega)
      have eL := (hca.ext hEr).i hlt
      have z2 : IntKind.i64.wrap ((k : Int) + 1) = (k : Int) + 1 := IntWalk.i64_in _ (by omega)
      have Hs := Lib.hid (chosenTo_succ s.lost b hlt)
      have Hcl := Lib.hid (chosenTo_len s.lost b k)
      clear l4 hca
      cases hb : bitAt b k with
      | false =>
        have Hs2 := Lib.hid (show chosenTo s.lost b (k + 1) = chosenTo s.lost b k by rw [Hs.out, hb]; rfl)
        have hq : ((b / 2 ^ min k 8).tmod 2 == 1) = false := hb
        clear hb
        go_wp2
        go_roundw
        case rel => exact ⟨hEr, k + 1, by omega, by go_num, by rw [Hs2.out]; exact hO⟩
        case measure => simp [intOf]; omega
      | true =>
        have Hs2 := Lib.hid (show chosenTo s.lost b (k + 1) = chosenTo s.lost b k ++ [s.lost[k]] by rw [Hs.out, hb]; rfl)
        have hq : ((b / 2 ^ min k 8).tmod 2 == 1) = true := hb
        clear hb
        go_wp2_with (first | ((with_reducible refine q_bsI (d := some 26) (n := s.lost[k]) ?_ ?_); rfl; intro W26 g26 hE26 hB26 hg26; replace hEr := Ext.trans hEr hE26; replace hO := OwnI.ext hO hE26) | ((with_reducible refine q_appI (d := some 27) ?_ hO ?_ hB26 ?_ ?_ ?_); rfl; rfl; (have := Hcl.out; omega); exact hEr.size; intro v27 W27 hO27 hm27 hgr27; replace hEr := hm27 _ hEr))
        go_roundw
        case rel => exact ⟨hEr, k + 1, by omega, by go_num, by rw [Hs2.out]; exact hO27⟩
        case measure => simp [intOf]; omega
    · obtain rfl : k = s.lost.length := by omega
      clear l4
      go_wp2
      go_ret
      exact ⟨_, rfl, OwnI.lower hO hE.size, Ext.trans hE hEr⟩
end Go.Bp
end
section
/- Plain Lean: whole tests by turns, lost lines by bits; the laws Lost, Decided, Milder, Appeal and More without a program. -/
namespace Go.Bp
open Go.RowKit
structure Driven where
  lines : Int
  what : List Int
  lost : Int
structure Driven.Ok (x : Driven) : Prop where
  l0 : 0 ≤ x.lines
  l1 : x.lines ≤ 255
  w : ∀ n ∈ x.what, 0 ≤ n ∧ n ≤ 255
  b0 : 0 ≤ x.lost
  b1 : x.lost ≤ 65535
def bitW (b : Int) (i : Nat) : Bool := (b / 2 ^ min i 16).tmod 2 == 1
def Driven.len (x : Driven) : Nat := 1 + (x.lines.tmod 12).toNat
def Driven.at_ (x : Driven) (c : Code) (n : Nat) : Int := if 0 < x.what.length then (x.what.getD (n % x.what.length) 0).tmod c.things else 0
def Driven.testTo (x : Driven) (c : Code) (k : Nat) : List Int := (List.range k).map (x.at_ c)
def Driven.lostTo (x : Driven) : Nat → List Int
  | 0 => []
  | k + 1 => if bitW x.lost k = true ∧ (x.lostTo k).length < 3 then x.lostTo k ++ [(k : Int) + 1] else x.lostTo k
def Driven.test (x : Driven) (c : Code) : List Int := x.testTo c x.len
def Driven.gone (x : Driven) : List Int := x.lostTo x.len
section
variable {c : Code} {x : Driven}
theorem Driven.testTo_succ (x : Driven) (c : Code) (k : Nat) : x.testTo c (k + 1) = x.testTo c k ++ [x.at_ c k] := by
  unfold Driven.testTo; rw [List.range_succ, List.map_append]; rfl
theorem Driven.testTo_len (x : Driven) (c : Code) (k : Nat) : (x.testTo c k).length = k := by simp [Driven.testTo]
theorem Driven.test_len (x : Driven) (c : Code) : (x.test c).length = x.len := x.testTo_len c x.len
theorem Driven.lostTo_len (x : Driven) : ∀ k, (x.lostTo k).length ≤ 3
  | 0 => by simp [Driven.lostTo]
  | k + 1 => by
    have := x.lostTo_len k
    unfold Driven.lostTo
    split
    · rename_i h; rw [List.length_append]; simp; omega
    · exact this
theorem Driven.lostTo_sub (x : Driven) : ∀ k, (x.lostTo k).Sublist (numbers k)
  | 0 => by simp [Driven.lostTo]
  | k + 1 => by
    have := x.lostTo_sub k
    rw [numbers_succ]
    unfold Driven.lostTo
    split
    · have e : [((k + 1 : Nat) : Int)] = [(k : Int) + 1] := by simp
      rw [e]; exact this.append (List.Sublist.refl _)
    · exact this.trans (List.sublist_append_left _ _)
theorem Driven.Ok.len1 (h : x.Ok) : 1 ≤ x.len ∧ x.len ≤ 12 ∧ ((x.len : Nat) : Int) = 1 + x.lines.tmod 12 := by
  have h0 := h.l0
  have h1 := Int.tmod_lt_of_pos x.lines (show (0 : Int) < 12 by omega)
  have h2 := Int.tmod_nonneg 12 h0
  unfold Driven.len; omega
theorem Driven.Ok.at_ok (h : x.Ok) (ho : c.Ok) (n : Nat) : 0 ≤ x.at_ c n ∧ x.at_ c n < c.things := by
  have ht := ho.thing1
  unfold Driven.at_
  split
  · rename_i hl
    have hm := Nat.mod_lt n hl
    have e : x.what.getD (n % x.what.length) 0 = x.what[n % x.what.length] := by simp [List.getD, hm]
    have hx := h.w _ (List.getElem_mem hm)
    rw [e]
    exact ⟨Int.tmod_nonneg _ hx.1, Int.tmod_lt_of_pos _ (by omega)⟩
  · omega
theorem Driven.Ok.testOk (h : x.Ok) (ho : c.Ok) : c.TestOk (x.test c) := by
  refine ⟨by rw [x.test_len]; exact h.len1.2.1, fun y hy => ?_⟩
  unfold Driven.test Driven.testTo at hy
  obtain ⟨n, _, rfl⟩ := List.mem_map.1 hy
  exact h.at_ok ho n
theorem Driven.Ok.drove (h : x.Ok) (ho : c.Ok) : Drove c (x.test c) x.gone :=
  ⟨ho, h.testOk ho, by rw [x.test_len]; exact h.len1.1, by rw [x.test_len]; exact x.lostTo_sub _, x.lostTo_len _⟩
end
/-! ### Lost -/
theorem lost_law {c : Code} {t lost : List Int} (h : Drove c t lost) :
    keepAns c t lost = (leftOf c t lost, 0) ∧ c.judge t = (c.total t, c.passed t, 0) ∧ (((leftOf c t lost).kept.length : Nat) : Int) = (t.length : Int) - lost.length ∧ fits c (leftOf c t lost) t = true ∧
    ∃ o n : Int, outcomeAns c (leftOf c t lost) = (o, 0) ∧ fitsAns c (leftOf c t lost) = (n, 0) ∧ (o = 1 ∧ c.passed t = true ∨ o = 0 ∧ c.passed t = false ∨ o = 2) ∧ 1 ≤ n ∧ (lost.length = 0 → n = 1) := by
  have hk := kept_len (c := c) h.sub
  have ho := outcome_says h.mem
  have hp := List.length_pos_of_mem h.mem
  refine ⟨h.keep, h.judge, ?_, h.fit, outcomeOf c (leftOf c t lost), (tests c (leftOf c t lost)).length, ?_, ?_, ?_, by omega, fun e => ?_⟩
  · show (((keptTo c t lost t.length).length : Nat) : Int) = _
    omega
  · unfold outcomeAns; rw [if_neg (by simp [h.fitting])]
  · unfold fitsAns; rw [if_neg (by simp [h.asked])]
  · rcases ho.2.2 with e | e | e
    · exact .inr (.inl ⟨e, ho.2.1 e⟩)
    · exact .inl ⟨e, ho.1 e⟩
    · exact .inr (.inr e)
  · have := h.only (List.eq_nil_of_length_eq_zero e); omega
/-! ### Decided -/
theorem kept_fewer {c : Code} {t l m : List Int} (h : ∀ n ∈ m, n ∈ l) {a : List Int} (ha : fits c (leftOf c t m) a = true) : fits c (leftOf c t l) a = true := by
  rw [fits_iff] at ha ⊢
  refine ⟨ha.1, fun x hx => ha.2 x ?_⟩
  obtain ⟨i, h1, h2, rfl⟩ := mem_kept.1 hx
  exact mem_kept.2 ⟨i, h1, fun hm => h2 (h _ hm), rfl⟩
theorem kept_same {c : Code} {t m : List Int} {a : List Int} (ha : fits c (leftOf c t m) a = true) {n : Int} (h1 : 1 ≤ n) (h2 : n ≤ t.length) (hn : n ∉ m) : a.getD (n - 1).toNat 0 = t.getD (n - 1).toNat 0 := by
  have := (fits_iff.1 ha).2 (keptLine c t (n - 1).toNat) (mem_kept.2 ⟨(n - 1).toNat, by omega, by rw [show (((n - 1).toNat : Nat) : Int) + 1 = n by omega]; exact hn, rfl⟩)
  have e : ((keptLine c t (n - 1).toNat).no - 1).toNat = (n - 1).toNat := by simp only [keptLine]; omega
  rw [e] at this
  exact this.1
/-- The lost lines that Fewest does not name. -/
def stillOf (lost l : List Int) : List Int := lost.filter fun n => !(hasB l n)
def stillTo (lost l : List Int) (k : Nat) : List Int := (lost.take k).filter fun n => !(hasB l n)
theorem stillTo_succ (lost l : List Int) {k : Nat} (hk : k < lost.length) : stillTo lost l (k + 1) = if hasB l lost[k] = true then stillTo lost l k else stillTo lost l k ++ [lost[k]] := by
  unfold stillTo
  rw [take_snoc _ hk, List.filter_append]
  by_cases h : hasB l lost[k] = true <;> simp [h]
theorem stillTo_all (lost l : List Int) : stillTo lost l lost.length = stillOf lost l := by unfold stillTo stillOf; rw [List.take_length]
theorem stillTo_len (lost l : List Int) (k : Nat) : (stillTo lost l k).length ≤ k := by
  unfold stillTo
  refine Nat.le_trans (List.length_filter_le _ _) ?_
  rw [List.length_take]; omega
theorem Drove.still {c : Code} {t lost : List Int} (h : Drove c t lost) (l : List Int) : Drove c t (stillOf lost l) :=
  ⟨h.ok, h.test, h.one, List.filter_sublist.trans h.sub, Nat.le_trans (List.length_filter_le _ _) h.few⟩
theorem decided_law {c : Code} {t lost : List Int} (h : Drove c t lost) :
    fewestAns c (leftOf c t lost) = (fewestOf c (leftOf c t lost), 0) ∧ ∃ o : Int, outcomeAns c (leftOf c t (stillOf lost (fewestOf c (leftOf c t lost)))) = (o, 0) ∧ (o = 1 ∧ c.passed t = true ∨ o = 0 ∧ c.passed t = false) := by
  have hs := h.still (fewestOf c (leftOf c t lost))
  refine ⟨by unfold fewestAns; rw [if_neg (by simp [h.fitting])], outcomeOf c (leftOf c t (stillOf lost (fewestOf c (leftOf c t lost)))), by unfold outcomeAns; rw [if_neg (by simp [hs.fitting])], ?_⟩
  obtain ⟨h1, h2, _⟩ := fewestOf_sub h.sOk
  have hlost : (leftOf c t lost).lost = lost := lost_kept h.sub
  rw [hlost] at h1
  generalize fewestOf c (leftOf c t lost) = l at *
  rw [enough_iff] at h2
  have key : ∀ a ∈ tests c (leftOf c t (stillOf lost l)), c.passed a = c.passed t := by
    intro a ha
    obtain ⟨a1, a2, a3⟩ := tests_mem hs.sOk ha
    have ha' : a ∈ tests c (leftOf c t lost) := (tests_iff h.sOk a1).2 (kept_fewer (fun n hn => (List.mem_filter.1 hn).1) a3)
    have hsame : ∀ n ∈ l, a.getD (n - 1).toNat 0 = t.getD (n - 1).toNat 0 := by
      intro n hn
      have hb := mem_numbers.1 (h.sub.subset (h1.subset hn))
      refine kept_same a3 hb.1 hb.2 fun hm => ?_
      have := (List.mem_filter.1 hm).2
      simp [hasB, hn] at this
    have s1 : same a t l = true := same_yes fun n hn => decide_eq_true (hsame n hn)
    have s2 : same t a l = true := same_yes fun n hn => decide_eq_true (hsame n hn).symm
    cases pa : c.passed a <;> cases pt : c.passed t
    · rfl
    · have := h2 t h.mem a ha' pt pa; rw [s2] at this; cases this
    · have := h2 a ha' t h.mem pa pt; rw [s1] at this; cases this
    · rfl
  have hsays := outcome_says hs.mem
  have hsome := outcome_some (List.ne_nil_of_mem hs.mem)
  cases pt : c.passed t with
  | true =>
    left
    refine ⟨?_, rfl⟩
    have : ¬ outcomeOf c (leftOf c t (stillOf lost l)) ≠ 1 := fun e => by
      obtain ⟨a, ha, hp⟩ := hsome.2.2 e
      rw [key a ha, pt] at hp; cases hp
    omega
  | false =>
    right
    refine ⟨?_, rfl⟩
    have : ¬ outcomeOf c (leftOf c t (stillOf lost l)) ≠ 0 := fun e => by
      obtain ⟨a, ha, hp⟩ := hsome.1.2 e
      rw [key a ha, pt] at hp; cases hp
    omega
/-! ### Milder -/
def mildLim (f : Fault) (b : Int) (i : Nat) : Int := min 12 (f.limit + (b.tdiv ((i : Int) + 1)).tmod 3)
def mildTo (c : Code) (b : Int) (k : Nat) : List Fault := (List.range k).map fun i => ⟨(c.faults.getD i ⟨ByteArray.empty, 0, 0⟩).name, (c.faults.getD i ⟨ByteArray.empty, 0, 0⟩).points, mildLim (c.faults.getD i ⟨ByteArray.empty, 0, 0⟩) b i⟩
def mildAll (c : Code) (a : Int) : Int := min 240 (c.all + a.tmod 50)
def mildOf (c : Code) (a b : Int) : Code := ⟨mildTo c b c.faults.length, c.man, mildAll c a⟩
theorem mildTo_succ (c : Code) (b : Int) {k : Nat} (hk : k < c.faults.length) : mildTo c b (k + 1) = mildTo c b k ++ [⟨c.faults[k].name, c.faults[k].points, mildLim c.faults[k] b k⟩] := by
  unfold mildTo
  rw [List.range_succ, List.map_append]
  simp [List.getD, hk]
theorem mildTo_len (c : Code) (b : Int) (k : Nat) : (mildTo c b k).length = k := by simp [mildTo]
theorem mild_milder {c : Code} (ho : c.Ok) {a b : Int} (ha : 0 ≤ a) (hb : 0 ≤ b) : Milder c (mildOf c a b) := by
  refine ⟨rfl, mildTo_len c b _, ?_, ?_, ?_⟩
  · intro i h h'
    have e : (mildOf c a b).faults[i] = ⟨c.faults[i].name, c.faults[i].points, mildLim c.faults[i] b i⟩ := by
      show (mildTo c b c.faults.length)[i]'(by rw [mildTo_len]; exact h) = _
      simp [mildTo, List.getD, h]
    rw [e]
    have h1 := ho.lim i h
    have h2 := Int.tmod_nonneg 3 (Int.tdiv_nonneg hb (show (0 : Int) ≤ (i : Int) + 1 by omega))
    refine ⟨rfl, rfl, ?_, ?_⟩
    · show c.faults[i].limit ≤ min 12 _
      omega
    · show min 12 _ ≤ (12 : Int)
      omega
  · show c.all ≤ min 240 _
    have := Int.tmod_nonneg 50 ha
    have := ho.all1
    omega
  · show min 240 _ ≤ (240 : Int)
    omega
theorem judge_of_ok {c : Code} (ho : c.Ok) {t : List Int} (ht : c.TestOk t) (h1 : 1 ≤ t.length) : c.judge t = (c.total t, c.passed t, 0) :=
  (show Drove c t [] from ⟨ho, ht, h1, List.nil_sublist _, by simp⟩).judge
theorem Milder.testOk {c d : Code} (h : Milder c d) {t : List Int} (ht : c.TestOk t) : d.TestOk t := ⟨ht.1, fun x hx => by rw [h.things]; exact ht.2 x hx⟩
theorem milder_law {c : Code} {t : List Int} (ho : c.Ok) (ht : c.TestOk t) (h1 : 1 ≤ t.length) {a b : Int} (ha : 0 ≤ a) (hb : 0 ≤ b) :
    c.judge t = (c.total t, c.passed t, 0) ∧ (mildOf c a b).judge t = ((mildOf c a b).total t, (mildOf c a b).passed t, 0) ∧ (c.passed t && !((mildOf c a b).passed t)) = false ∧
    ∀ k (hk : k < t.length), t[k] < (c.faults.length : Int) → t.length ≠ 1 → ∃ n p, c.judge (without c t [(k : Int) + 1]).1 = (n, p, 0) ∧ (!(c.passed t) || p) = true := by
  have hm := mild_milder ho ha hb
  refine ⟨judge_of_ok ho ht h1, judge_of_ok (hm.ok ho) (hm.testOk ht) h1, ?_, fun k hk hf h2 => ?_⟩
  · cases hp : c.passed t with
    | false => rfl
    | true => rw [hm.passed hp]; rfl
  · refine ⟨_, _, judge_of_ok ho (left_ok ht) ?_, ?_⟩
    · have := left_len (c := c) hk; omega
    · cases hp : c.passed t with
      | false => rfl
      | true => rw [struck_passed ho ht hk hf hp]; rfl
/-! ### Appeal -/
def anyTo (b : Int) (k : Nat) : List Int := ((List.range k).filter (bitW b)).map fun i : Nat => (i : Int) + 1
theorem anyTo_succ (b : Int) (k : Nat) : anyTo b (k + 1) = if bitW b k = true then anyTo b k ++ [(k : Int) + 1] else anyTo b k := by
  unfold anyTo
  rw [List.range_succ, List.filter_append, List.map_append]
  by_cases h : bitW b k = true <;> simp [h]
theorem anyTo_sub (b : Int) : ∀ k, (anyTo b k).Sublist (numbers k)
  | 0 => by simp [anyTo]
  | k + 1 => by
    have := anyTo_sub b k
    rw [numbers_succ, anyTo_succ]
    split
    · have e : [((k + 1 : Nat) : Int)] = [(k : Int) + 1] := by simp
      rw [e]; exact this.append (List.Sublist.refl _)
    · exact this.trans (List.sublist_append_left _ _)
theorem anyTo_len (b : Int) (k : Nat) : (anyTo b k).length ≤ k := by have := (anyTo_sub b k).length_le; rwa [numbers_len] at this
theorem appeal_law {c : Code} {t : List Int} (ho : c.Ok) (ht : c.TestOk t) (h1 : 1 ≤ t.length) (b : Int) :
    c.judge t = (c.total t, c.passed t, 0) ∧
    ((∃ l, appealAns c t = (l, 0) ∧ l.Sublist (numbers t.length) ∧ (c.passed t = true ↔ l = []) ∧ (without c t l).2 = true ∧ c.passed (without c t l).1 = true ∧
        ((without c t (anyTo b t.length)).2 = true → c.passed (without c t (anyTo b t.length)).1 = true → l.length ≤ (anyTo b t.length).length)) ∨
      (appealAns c t = ([], 9) ∧ c.passed t = false ∧ ((without c t (anyTo b t.length)).2 = true → c.passed (without c t (anyTo b t.length)).1 = false))) := by
  have hd : Drove c t [] := ⟨ho, ht, h1, List.nil_sublist _, by simp⟩
  refine ⟨hd.judge, ?_⟩
  have hany : ∀ l, fewestBy (helps c t) (numbers t.length) = some l → helps c t (anyTo b t.length) = true → l.length ≤ (anyTo b t.length).length := fun l hl hp => fewestBy_least hl (anyTo_sub b _) hp
  rcases appeal_cases hd.whole with ⟨l, h2, h3, h4, h5⟩ | ⟨h2, h3⟩
  · left
    have h6 : (without c t l).2 = true ∧ c.passed (without c t l).1 = true := by simpa [helps] using h5
    refine ⟨l, h3, h4, ?_, h6.1, h6.2, fun a1 a2 => hany l h2 (by simp [helps, a1, a2])⟩
    constructor
    · intro hp
      have := fewestBy_nil (p := helps c t) (ls := numbers t.length) |>.2 (by rw [helps_nil]; exact hp)
      rw [h2] at this; exact Option.some.inj this
    · rintro rfl
      have := fewestBy_nil.1 h2
      rwa [helps_nil] at this
  · right
    refine ⟨h3, ?_, fun a1 => ?_⟩
    · cases hp : c.passed t with
      | false => rfl
      | true =>
        have := fewestBy_nil (p := helps c t) (ls := numbers t.length) |>.2 (by rw [helps_nil]; exact hp)
        rw [h2] at this; cases this
    · cases hp : c.passed (without c t (anyTo b t.length)).1 with
      | false => rfl
      | true =>
        obtain ⟨l, hl⟩ := fewestBy_any (anyTo_sub b t.length) (show helps c t (anyTo b t.length) = true by simp [helps, a1, hp])
        rw [h2] at hl; cases hl
/-! ### More -/
theorem more_err (c : Code) (s : Sheet) : ((decide ((outcomeAns c s).2 = 0)) || decide ((outcomeAns c s).1 = 0)) = true ∧
    (decide ((outcomeAns c s).2 = 9) == ((decide ((fitsAns c s).2 = 0) && decide ((fitsAns c s).1 = 0)) && !decide ((outcomeAns c s).2 = 0))) = true := by
  have h9 := asked_cases c s
  unfold outcomeAns fitsAns fittingErr
  by_cases ha : s.asked c = 0
  · by_cases ht : tests c s = []
    · simp [ha, ht]
    · simp [ha, ht]
  · simp [ha, h9]
theorem more_law {c : Code} {s : Sheet} (hf : fittingErr c s = 0) {k : Nat} (hk : k < s.kept.length) (h3 : s.lost.length < 3) :
    outcomeAns c s = (outcomeOf c s, 0) ∧ fitsAns c s = (((tests c s).length : Int), 0) ∧ outcomeAns c (lessOf s k) = (outcomeOf c (lessOf s k), 0) ∧ fitsAns c (lessOf s k) = (((tests c (lessOf s k)).length : Int), 0) ∧
    (tests c s).length ≤ (tests c (lessOf s k)).length ∧ 1 ≤ (tests c s).length ∧ (outcomeOf c (lessOf s k) = outcomeOf c s ∨ outcomeOf c (lessOf s k) = 2) := by
  obtain ⟨ho, hs, hn⟩ := fittingErr_zero hf
  have ha := (fitting_cases.2 hf).1
  obtain ⟨h1, h2, h4, h5⟩ := less_more hs hk h3 hn
  have hl : (lessOf s k).asked c = 0 := by
    have := Code.check_of_ok ho
    rw [Sheet.asked_s (by rw [this])]; exact less_ok hs hk h3
  have hl2 := fitting_0 hl h5
  refine ⟨?_, ?_, ?_, ?_, h1, h2, h4⟩
  · unfold outcomeAns; rw [if_neg (by simp [hf])]
  · unfold fitsAns; rw [if_neg (by simp [ha])]
  · unfold outcomeAns; rw [if_neg (by simp [hl2])]
  · unfold fitsAns; rw [if_neg (by simp [hl])]
end Go.Bp
end
section
set_option maxRecDepth 100000
set_option linter.unusedSimpArgs false
set_option linter.unusedVariables false
namespace Go.Bp
open Go.RowKit Go.Proofs
def encU (xs : List Int) : List Value := xs.map (Value.int .u8)
theorem encU_get (xs : List Int) (k : Nat) (h : k < xs.length) : (encU xs)[k]? = some (.int .u8 xs[k]) := by simp [encU, h]
theorem Cells.u {w : World} {ad : Addr} {xs : List Int} (h : Cells w ad (encU xs)) {k : Nat} (hk : k < xs.length) : w.cell? (ad.add k) = some (.int .u8 xs[k]) := h k _ (encU_get _ _ hk)
/-- The slice v of bytes reads as xs. -/
def Bytes8 (w : World) (v : Value) (xs : List Int) : Prop := Sl w 1 v xs.length (encU xs)
theorem Bytes8.ext {w w' : World} {v : Value} {xs : List Int} (h : Bytes8 w v xs) (e : Ext w w') : Bytes8 w' v xs := Sl.ext h e
theorem Bytes8.d {w : World} {v : Value} {xs : List Int} (h : Bytes8 w v xs) : Bytes8 w.drew v xs := h
def DrivenV (w : World) (v : Value) (x : Driven) : Prop := ∃ wv, v = .agg #[.int .u8 x.lines, wv, .int .u16 x.lost] ∧ Bytes8 w wv x.what ∧ x.Ok
theorem DrivenV.ext {w w' : World} {v : Value} {x : Driven} (h : DrivenV w v x) (e : Ext w w') : DrivenV w' v x := let ⟨wv, h1, h2, h3⟩ := h; ⟨wv, h1, h2.ext e, h3⟩
section
variable {ops : Array Oper} {Q : Exit → Act → World → Prop} {a : Act} {w : World} {rest : List Oper}
variable {d : Option Tmp} {ty : TypeId} {pos : String} {after : Array Edge}
/-- As q_appI; where the row lies is told. -/
theorem q_appI2 {s x : Operand} {B g : Nat} {v : Value} {xs : List Int} {n : Int} (hs : a.eval s = v) (hO : OwnI B w v xs) (hx : a.eval x = .slice (some ⟨g, 0, none⟩) 1 1) (hb : Blk w g 3 #[.int .i64 n]) (hlen : xs.length ≤ 1000000000) (hB : B ≤ w.heap.size)
    (k : ∀ v' W, OwnI B W v' (xs ++ [n]) → (∀ w0, Below B w0 w → Below B w0 W) → w.grownBy W v.ownBlock → (v'.ownBlock = v.ownBlock ∨ v'.ownBlock = some w.heap.size) → wpList Tryz.prog ops Q rest (a.put d v') W) :
    wpList Tryz.prog ops Q (⟨d, .call { callee := .builtin .append, args := #[s, x], argTypes := #[26, 26] }, ty, pos, after, none⟩ :: rest) a w := by
  refine q_append Tryz.underlying26 ti3 rfl (by decide) hs hO hx (fun _ => ⟨_, rfl, hb.cells⟩) (by simp) (by simp [Value.oneCell']) (by omega) (by unfold maxLen; omega) hB ?_
  intro v' W h1 h2 h3
  refine k v' W ?_ (fun w0 h0 => grown_ext h0 hO h2 hB) h2 h3
  unfold OwnI
  simpa [encI] using h1
end
theorem OwnI.lt {B : Nat} {w : World} {v : Value} {xs : List Int} (h : OwnI B w v xs) : ∀ g, v.ownBlock = some g → g < w.heap.size := fun g hg => (World.ownsRow.lt h g hg).2
theorem OwnI.kept {B : Nat} {w W : World} {v u : Value} {ys : List Int} (h : OwnI B w u ys) (ha : Apart w v u) (hg : w.grownBy W v.ownBlock) : OwnI B W u ys := World.ownsRow.kept h hg ha.1
theorem whole_facts {c : Code} {x : Driven} (ho : c.Ok) (hx : x.Ok) : IntKind.i64.wrap ((c.faults.length : Int) + (c.man.length : Int)) = (c.things : Int) ∧ IntKind.i64.wrap x.lines = x.lines ∧ IntKind.i64.wrap (x.lines.tmod 12) = x.lines.tmod 12 ∧ IntKind.i64.wrap (1 + x.lines.tmod 12) = (x.len : Int) := by
  have h1 := hx.len1; have h2 := ho.thing9; have h3 := hx.l0; have h4 := hx.l1
  have e : (c.things : Int) = (c.faults.length : Int) + c.man.length := by unfold Code.things; omega
  refine ⟨?_, IntWalk.i64_in _ (by omega), ?_, ?_⟩
  · rw [IntWalk.i64_in _ (by omega)]; exact e.symm
  · exact IntWalk.i64_in _ (by omega)
  · rw [IntWalk.i64_in _ (by omega)]; omega
set_option maxHeartbeats 4000000 in
theorem Whole_any (cv xv : Value) (c : Code) (x : Driven) (w : World) (h : CodeV w cv c) (hx : DrivenV w xv x) (ho : c.Ok) :
    Calls Tryz.prog 44 #[cv, xv] w (Ret2 w fun v1 v2 w' => OwnI w.heap.size w' v1 (x.test c) ∧ OwnI w.heap.size w' v2 x.gone) := by
  obtain ⟨fv, mv, rfl, hF, hM, hW⟩ := h
  have hE := Ext.refl w
  clear hW
  obtain ⟨wv, rfl, hT, hxo⟩ := hx
  obtain ⟨f1, f2, f3, f4⟩ := whole_facts ho hxo
  obtain ⟨hl1, hl2, _⟩ := hxo.len1
  have ht1 := ho.thing1
  have ht9 := ho.thing9
  obtain ⟨AF, cF, rfl, _, _, _, _⟩ := id hF
  obtain ⟨AM, cM, rfl, _, _, _, _⟩ := id hM
  obtain ⟨AT, cT, rfl, t1, t2, t3, _⟩ := id hT
  unfold maxLen at t2
  have HF1 := Lib.hid f1; have HF2 := Lib.hid f2; have HF3 := Lib.hid f3; have HF4 := Lib.hid f4
  have Hxo := Lib.hid hxo; have Ho := Lib.hid ho
  have h45 : x.len ≤ 12 := hl2
  clear hF hM t3 hxo ho f2 f3 f4
  go_enter Tryz.func44, Tryz.ntmps44
  go_wp2_with (first | ((with_reducible refine q_box (d := some 2) ?_); intro W2 g2 hE2 hB2 hg2; simp [Act.eval, Act.put, Value.cells] at hB2; (try replace hE := hE.trans hE2); (try replace hB2 := hB2.ext hE2); (try replace hB3 := hB3.ext hE2); (try replace hb2_0 := Ext.cell_some hE2 hb2_0); (try replace hb2_1 := Ext.cell_some hE2 hb2_1); (try replace hb2_2 := Ext.cell_some hE2 hb2_2); (try replace hb3_0 := Ext.cell_some hE2 hb3_0); (try replace hb3_1 := Ext.cell_some hE2 hb3_1); (try replace hb3_2 := Ext.cell_some hE2 hb3_2); have hb2_0 := hB2.cell 0; have hb2_1 := hB2.cell 1; have hb2_2 := hB2.cell 2; simp at hb2_0 hb2_1 hb2_2; clear hE2) | ((with_reducible refine q_box (d := some 3) ?_); intro W3 g3 hE3 hB3 hg3; simp [Act.eval, Act.put, Value.cells] at hB3; (try replace hE := hE.trans hE3); (try replace hB2 := hB2.ext hE3); (try replace hB3 := hB3.ext hE3); (try replace hb2_0 := Ext.cell_some hE3 hb2_0); (try replace hb2_1 := Ext.cell_some hE3 hb2_1); (try replace hb2_2 := Ext.cell_some hE3 hb2_2); (try replace hb3_0 := Ext.cell_some hE3 hb3_0); (try replace hb3_1 := Ext.cell_some hE3 hb3_1); (try replace hb3_2 := Ext.cell_some hE3 hb3_2); have hb3_0 := hB3.cell 0; have hb3_1 := hB3.cell 1; have hb3_2 := hB3.cell 2; simp at hb3_0 hb3_1 hb3_2; clear hE3))
  have hB0 := hE.size
  have K30 := Lib.hid hb3_0; have K31 := Lib.hid hb3_1; have K32 := Lib.hid hb3_2
  have HT := Lib.hid (hT.ext hE)
  go_loopw [7, 8, 9] (fun v u i Wr => Ext W3 Wr ∧ ∃ k : Nat, k ≤ x.len ∧ i = .int .i64 k ∧ OwnI W3.heap.size Wr v (x.testTo c k) ∧ OwnI W3.heap.size Wr u (x.lostTo k) ∧ Apart Wr v u) (fun _ _ i _ => x.len - (intOf i).toNat)
  case atStart => exact ⟨Ext.refl _, 0, by omega, rfl, OwnI.nil _ _, OwnI.nil _ _, Apart.nil _⟩
  case round =>
    obtain ⟨hEr, k, hk, rfl, hO1, hO2, hAp⟩ := hrel
    have L1 := Lib.hid (x.testTo_len c k); have L2 := Lib.hid (x.lostTo_len k)
    have S1 := Lib.hid (x.testTo_succ c k)
    have b30 := Ext.cell_some hEr K30.out; have b31 := Ext.cell_some hEr K31.out
    have f2 := HF2.out; have f3 := HF3.out; have f4 := HF4.out
    clear hb3_0 hb3_1 hb3_2 hb2_0 hb2_1 hb2_2 hB2 hB3 hT
    by_cases hlt : k < x.len
    · have z1 : IntKind.i64.wrap ((k : Int) + 1) = (k : Int) + 1 := IntWalk.i64_in _ (by omega)
      obtain ⟨nv, hnv⟩ : ∃ nv, x.at_ c k = nv := ⟨_, rfl⟩
      have hnb := Hxo.out.at_ok Ho.out k
      rw [hnv] at hnb
      have S1' := Lib.hid (show x.testTo c (k + 1) = x.testTo c k ++ [nv] by rw [S1.out, hnv])
      clear S1
      have hs2 : (bitW x.lost k = true ∧ (x.lostTo k).length < 3 ∧ x.lostTo (k + 1) = x.lostTo k ++ [(k : Int) + 1]) ∨ ((bitW x.lost k = false ∨ (bitW x.lost k = true ∧ ¬ (x.lostTo k).length < 3)) ∧ x.lostTo (k + 1) = x.lostTo k) := by
        cases hb : bitW x.lost k
        · right; exact ⟨.inl rfl, by conv => lhs; unfold Driven.lostTo
                                     rw [if_neg (by simp [hb])]⟩
        · by_cases h3 : (x.lostTo k).length < 3
          · left; exact ⟨rfl, h3, by conv => lhs; unfold Driven.lostTo
                                     rw [if_pos ⟨hb, h3⟩]⟩
          · right; exact ⟨.inr ⟨rfl, h3⟩, by conv => lhs; unfold Driven.lostTo
                                             rw [if_neg (by simp [h3])]⟩
      by_cases hwl : 0 < x.what.length
      · obtain ⟨j, hj⟩ : ∃ j, k % x.what.length = j := ⟨_, rfl⟩
        have hjl : j < x.what.length := by rw [← hj]; exact Nat.mod_lt _ hwl
        obtain ⟨AT', cT', e0, _, _, _, t4⟩ := HT.out
        obtain ⟨ad, e5, hca⟩ := t4 hwl
        obtain ⟨rfl, rfl⟩ : AT = AT' ∧ cT = cT' := by simpa using e0
        subst e5
        have eU := (hca.ext hEr).u hjl
        have y1 : (k : Int).tmod (x.what.length : Int) = (j : Int) := by rw [← Int.ofNat_tmod, hj]
        have y2 : IntKind.i64.wrap x.what[j] = x.what[j] := IntWalk.i64_in _ (by have := Hxo.out.w _ (List.getElem_mem hjl); omega)
        have y3 : (x.what[j]).tmod (c.things : Int) = nv := by
          rw [← hnv]; unfold Driven.at_
          rw [if_pos hwl, hj]; simp [List.getD, hjl]
        have y4 : IntKind.i64.wrap nv = nv := IntWalk.i64_in _ (by omega)
        have y5 : IntKind.i64.wrap (j : Int) = (j : Int) := IntWalk.i64_in _ (by omega)
        have y6 : ((c.things : Int) == 0) = false := by rw [beq_eq_false_iff_ne]; omega
        have y7 : ((x.what.length : Int) == 0) = false := by rw [beq_eq_false_iff_ne]; omega
        have y8 : ¬ ((c.things : Int) = 0) := by omega
        have y9 : ¬ ((x.what.length : Int) = 0) := by omega
        clear hca t4 e0 hj
        go_wp2_with fail
        refine wp_region_quiet_lit (by kernel_rfl) (by kernel_rfl) ?_
        repeat (any_goals (first | go_big_quiet_step (fail) | quiet_step (fail)))
        refine wpQuiet_nil ?_
        intro _ hw'
        obtain ⟨nq, hw''⟩ := hw'
        subst hw''
        generalize hWq : wr.drewN nq = Wq at *
        have hqE : Ext wr Wq := by rw [← hWq]; exact (Ext.refl wr).drewN nq
        replace hEr := Ext.trans hEr hqE; replace hO1 := OwnI.ext hO1 hqE; replace hO2 := OwnI.ext hO2 hqE; replace hAp := Apart.ext hAp hqE
        clear hqE hWq
        rcases hs2 with ⟨hb, h3, hs⟩ | ⟨hb | ⟨hb, h3⟩, hs⟩
        · have Hs := Lib.hid hs
          have hq : (x.lost / 2 ^ k).tmod 2 = 1 := by unfold bitW at hb; rw [Nat.min_eq_left (by omega)] at hb; simpa using hb
          have h3' : ((x.lostTo k).length : Int) < 3 := by omega
          clear hb hs
          go_wp2_with (first | ((with_reducible refine q_bsI (d := some 45) (n := nv) ?_ ?_); rfl; intro W45 g45 hE45 hB45 hg45; replace hEr := Ext.trans hEr hE45; replace hO1 := OwnI.ext hO1 hE45; replace hO2 := OwnI.ext hO2 hE45; replace hAp := Apart.ext hAp hE45; clear hE45 hg45) | ((with_reducible refine q_appI2 (d := some 46) ?_ hO1 ?_ hB45 ?_ ?_ ?_); rfl; rfl; (have := L1.out; omega); exact hEr.size; intro v46 W46 hO46 hm46 hgr46 h746; replace hEr := hm46 _ hEr; replace hO2 := OwnI.kept hO2 hAp hgr46; replace hAp := Apart.app hAp hgr46 h746 hO46.lt; obtain ⟨A8, c8, hve8, _, _, _, _⟩ := hO2.ints; subst hve8; clear hm46 hgr46 h746 hO1 hB45; have b32 := Ext.cell_some hEr K32.out) | ((with_reducible refine q_bsI (d := some 61) (n := (k : Int) + 1) ?_ ?_); (first | rfl | go_num); intro W61 g61 hE61 hB61 hg61; replace hEr := Ext.trans hEr hE61; replace hO46 := OwnI.ext hO46 hE61; replace hO2 := OwnI.ext hO2 hE61; replace hAp := Apart.ext hAp hE61; clear hE61 hg61) | ((with_reducible refine q_appI2 (d := some 62) ?_ hO2 ?_ hB61 ?_ ?_ ?_); rfl; rfl; (have := L2.out; omega); exact hEr.size; intro v62 W62 hO62 hm62 hgr62 h762; replace hEr := hm62 _ hEr; replace hO46 := OwnI.kept hO46 hAp.symm hgr62; replace hAp := (Apart.app hAp.symm hgr62 h762 hO62.lt).symm))
          go_roundw
          case rel => exact ⟨hEr, k + 1, by omega, by go_num, by rw [S1'.out]; exact hO46, by rw [Hs.out]; exact hO62, hAp⟩
          case measure => simp [intOf]; omega
        · have Hs := Lib.hid hs
          have hq : ¬ (x.lost / 2 ^ k).tmod 2 = 1 := by unfold bitW at hb; rw [Nat.min_eq_left (by omega)] at hb; simpa using hb
          clear hb hs
          go_wp2_with (first | ((with_reducible refine q_bsI (d := some 45) (n := nv) ?_ ?_); rfl; intro W45 g45 hE45 hB45 hg45; replace hEr := Ext.trans hEr hE45; replace hO1 := OwnI.ext hO1 hE45; replace hO2 := OwnI.ext hO2 hE45; replace hAp := Apart.ext hAp hE45; clear hE45 hg45) | ((with_reducible refine q_appI2 (d := some 46) ?_ hO1 ?_ hB45 ?_ ?_ ?_); rfl; rfl; (have := L1.out; omega); exact hEr.size; intro v46 W46 hO46 hm46 hgr46 h746; replace hEr := hm46 _ hEr; replace hO2 := OwnI.kept hO2 hAp hgr46; replace hAp := Apart.app hAp hgr46 h746 hO46.lt; obtain ⟨A8, c8, hve8, _, _, _, _⟩ := hO2.ints; subst hve8; clear hm46 hgr46 h746 hO1 hB45; have b32 := Ext.cell_some hEr K32.out))
          go_roundw
          case rel => exact ⟨hEr, k + 1, by omega, by go_num, by rw [S1'.out]; exact hO46, by rw [Hs.out]; exact hO2, hAp⟩
          case measure => simp [intOf]; omega
        · have Hs := Lib.hid hs
          have hq : (x.lost / 2 ^ k).tmod 2 = 1 := by unfold bitW at hb; rw [Nat.min_eq_left (by omega)] at hb; simpa using hb
          have h3' : ¬ ((x.lostTo k).length : Int) < 3 := by omega
          clear hb hs
          go_wp2_with (first | ((with_reducible refine q_bsI (d := some 45) (n := nv) ?_ ?_); rfl; intro W45 g45 hE45 hB45 hg45; replace hEr := Ext.trans hEr hE45; replace hO1 := OwnI.ext hO1 hE45; replace hO2 := OwnI.ext hO2 hE45; replace hAp := Apart.ext hAp hE45; clear hE45 hg45) | ((with_reducible refine q_appI2 (d := some 46) ?_ hO1 ?_ hB45 ?_ ?_ ?_); rfl; rfl; (have := L1.out; omega); exact hEr.size; intro v46 W46 hO46 hm46 hgr46 h746; replace hEr := hm46 _ hEr; replace hO2 := OwnI.kept hO2 hAp hgr46; replace hAp := Apart.app hAp hgr46 h746 hO46.lt; obtain ⟨A8, c8, hve8, _, _, _, _⟩ := hO2.ints; subst hve8; clear hm46 hgr46 h746 hO1 hB45; have b32 := Ext.cell_some hEr K32.out))
          go_roundw
          case rel => exact ⟨hEr, k + 1, by omega, by go_num, by rw [S1'.out]; exact hO46, by rw [Hs.out]; exact hO2, hAp⟩
          case measure => simp [intOf]; omega
      · have y3 : nv = 0 := by
          rw [← hnv]; unfold Driven.at_
          rw [if_neg hwl]
        have y7 : ¬ (0 : Int) < (x.what.length : Int) := by omega
        subst y3
        rcases hs2 with ⟨hb, h3, hs⟩ | ⟨hb | ⟨hb, h3⟩, hs⟩
        · have Hs := Lib.hid hs
          have hq : (x.lost / 2 ^ k).tmod 2 = 1 := by unfold bitW at hb; rw [Nat.min_eq_left (by omega)] at hb; simpa using hb
          have h3' : ((x.lostTo k).length : Int) < 3 := by omega
          clear hb hs
          go_wp2_with (first | ((with_reducible refine q_bsI (d := some 45) (n := (0 : Int)) ?_ ?_); rfl; intro W45 g45 hE45 hB45 hg45; replace hEr := Ext.trans hEr hE45; replace hO1 := OwnI.ext hO1 hE45; replace hO2 := OwnI.ext hO2 hE45; replace hAp := Apart.ext hAp hE45; clear hE45 hg45) | ((with_reducible refine q_appI2 (d := some 46) ?_ hO1 ?_ hB45 ?_ ?_ ?_); rfl; rfl; (have := L1.out; omega); exact hEr.size; intro v46 W46 hO46 hm46 hgr46 h746; replace hEr := hm46 _ hEr; replace hO2 := OwnI.kept hO2 hAp hgr46; replace hAp := Apart.app hAp hgr46 h746 hO46.lt; obtain ⟨A8, c8, hve8, _, _, _, _⟩ := hO2.ints; subst hve8; clear hm46 hgr46 h746 hO1 hB45; have b32 := Ext.cell_some hEr K32.out) | ((with_reducible refine q_bsI (d := some 61) (n := (k : Int) + 1) ?_ ?_); (first | rfl | go_num); intro W61 g61 hE61 hB61 hg61; replace hEr := Ext.trans hEr hE61; replace hO46 := OwnI.ext hO46 hE61; replace hO2 := OwnI.ext hO2 hE61; replace hAp := Apart.ext hAp hE61; clear hE61 hg61) | ((with_reducible refine q_appI2 (d := some 62) ?_ hO2 ?_ hB61 ?_ ?_ ?_); rfl; rfl; (have := L2.out; omega); exact hEr.size; intro v62 W62 hO62 hm62 hgr62 h762; replace hEr := hm62 _ hEr; replace hO46 := OwnI.kept hO46 hAp.symm hgr62; replace hAp := (Apart.app hAp.symm hgr62 h762 hO62.lt).symm))
          go_roundw
          case rel => exact ⟨hEr, k + 1, by omega, by go_num, by rw [S1'.out]; exact hO46, by rw [Hs.out]; exact hO62, hAp⟩
          case measure => simp [intOf]; omega
        · have Hs := Lib.hid hs
          have hq : ¬ (x.lost / 2 ^ k).tmod 2 = 1 := by unfold bitW at hb; rw [Nat.min_eq_left (by omega)] at hb; simpa using hb
          clear hb hs
          go_wp2_with (first | ((with_reducible refine q_bsI (d := some 45) (n := (0 : Int)) ?_ ?_); rfl; intro W45 g45 hE45 hB45 hg45; replace hEr := Ext.trans hEr hE45; replace hO1 := OwnI.ext hO1 hE45; replace hO2 := OwnI.ext hO2 hE45; replace hAp := Apart.ext hAp hE45; clear hE45 hg45) | ((with_reducible refine q_appI2 (d := some 46) ?_ hO1 ?_ hB45 ?_ ?_ ?_); rfl; rfl; (have := L1.out; omega); exact hEr.size; intro v46 W46 hO46 hm46 hgr46 h746; replace hEr := hm46 _ hEr; replace hO2 := OwnI.kept hO2 hAp hgr46; replace hAp := Apart.app hAp hgr46 h746 hO46.lt; obtain ⟨A8, c8, hve8, _, _, _, _⟩ := hO2.ints; subst hve8; clear hm46 hgr46 h746 hO1 hB45; have b32 := Ext.cell_some hEr K32.out))
          go_roundw
          case rel => exact ⟨hEr, k + 1, by omega, by go_num, by rw [S1'.out]; exact hO46, by rw [Hs.out]; exact hO2, hAp⟩
          case measure => simp [intOf]; omega
        · have Hs := Lib.hid hs
          have hq : (x.lost / 2 ^ k).tmod 2 = 1 := by unfold bitW at hb; rw [Nat.min_eq_left (by omega)] at hb; simpa using hb
          have h3' : ¬ ((x.lostTo k).length : Int) < 3 := by omega
          clear hb hs
          go_wp2_with (first | ((with_reducible refine q_bsI (d := some 45) (n := (0 : Int)) ?_ ?_); rfl; intro W45 g45 hE45 hB45 hg45; replace hEr := Ext.trans hEr hE45; replace hO1 := OwnI.ext hO1 hE45; replace hO2 := OwnI.ext hO2 hE45; replace hAp := Apart.ext hAp hE45; clear hE45 hg45) | ((with_reducible refine q_appI2 (d := some 46) ?_ hO1 ?_ hB45 ?_ ?_ ?_); rfl; rfl; (have := L1.out; omega); exact hEr.size; intro v46 W46 hO46 hm46 hgr46 h746; replace hEr := hm46 _ hEr; replace hO2 := OwnI.kept hO2 hAp hgr46; replace hAp := Apart.app hAp hgr46 h746 hO46.lt; obtain ⟨A8, c8, hve8, _, _, _, _⟩ := hO2.ints; subst hve8; clear hm46 hgr46 h746 hO1 hB45; have b32 := Ext.cell_some hEr K32.out))
          go_roundw
          case rel => exact ⟨hEr, k + 1, by omega, by go_num, by rw [S1'.out]; exact hO46, by rw [Hs.out]; exact hO2, hAp⟩
          case measure => simp [intOf]; omega
    · obtain rfl : k = x.len := by omega
      go_wp2
      go_ret2
      exact ⟨_, _, rfl, ⟨OwnI.lower hO1 hE.size, OwnI.lower hO2 hE.size⟩, Ext.trans hE hEr⟩
end Go.Bp
end
