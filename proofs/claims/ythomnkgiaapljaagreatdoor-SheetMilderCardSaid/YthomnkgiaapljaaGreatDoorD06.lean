/- Texts P14 Rn Rt P15 Ri P17 P18 Spec17 Spec18 P16 P19 of the proof, merged: contracts of functions of chapter 10, of the program and of the reference, and plain laws. -/
import Derived.OrdersIn
import Derived.TacticsIn
import Derived.Test.YthomnkgiaapljaaGreatDoorD03
import Derived.Test.YthomnkgiaapljaaGreatDoorD04
import Derived.Test.YthomnkgiaapljaaGreatDoorD05
import Derived.WalkMore
section
set_option maxRecDepth 100000
set_option linter.unusedSimpArgs false
set_option linter.unusedVariables false
namespace Go.Bp
open Go.RowKit Go.Proofs
theorem enters107 : ∀ (args : Array Value) (W : World), (callFunc 107 args).run Tryz.prog W = .ok (.enter 107 args) W := enters_of Tryz.func107 (by kernel_rfl) rfl
theorem size3i : (Tryz.prog.info? 3).map TypeInfo.size = some 1 := by kernel_rfl
theorem info3i : ∃ i, Tryz.prog.info? 3 = some i ∧ i.size = 1 := size_of size3i
theorem ld_n {w : World} {p : Addr} {n : Int} (h : w.cell? p = some (.int .i64 n)) : (loadVar 3 p).run Tryz.prog w = .ok (.int .i64 n) w := by
  obtain ⟨i, hi, hs⟩ := info3i
  simp [loadVar, sizeOf, typeInfo, hi, hs, h, Sem.run, Sem.run_bind, Result.andThen]
theorem roundAct_one (p : Tmp) (v : Value) (a : Act) : roundAct #[p] #[v] a = { tmps := a.tmps.setIfInBounds p v, defers := [] } := by simp [roundAct]
theorem cell_blk {w : World} {g : Nat} {v : Value} {t : TypeId} (h : Blk w g t #[v]) : w.cell? ⟨g, 0, none⟩ = some v := by simpa using h.cell 0
theorem DtT.grown {gb gv gm g : Nat} {fv mv lv : Value} {c : Code} {s : Sheet} {A B : World} {x : Value} (hb : Blk A gb 101 #[x]) (h : DtT gb gv gm fv mv lv c s A) (hg : A.grownBy B (some g)) (hbg : gb ≠ g) (hv : gv ≠ g) (hm : gm ≠ g) (hF : Faults B fv c.faults) (hM : Strs B mv c.man) : DtT gb gv gm fv mv lv c s B := by
  obtain ⟨h1, h2, h3, _, _⟩ := h
  refine ⟨?_, h2.grown hg (fun e => hv (Option.some.inj e)), h3.grown hg (fun e => hm (Option.some.inj e)), hF, hM⟩
  have h4 := hb.grown hg (fun e => hbg (Option.some.inj e))
  rw [cell_blk hb] at h1
  rw [cell_blk h4]; exact h1
set_option maxHeartbeats 4000000 in
theorem PFits_any (cv sv : Value) (c : Code) (s : Sheet) (w : World) (h : CodeV w cv c) (hsv : SheetV w sv s) :
    Calls Tryz.prog 28 #[cv, sv] w (RetII w (fitsAns c s).1 (fitsAns c s).2) := by
  obtain ⟨fv, mv, rfl, hF, hM, hW⟩ := h
  obtain ⟨kv, rfl, hK⟩ := hsv
  have hE := Ext.refl w
  have HW := Lib.hid hW
  clear hW
  by_cases ha : s.asked c = 0
  · obtain ⟨ho, hs⟩ := asked_zero ha
    have Ho := Lib.hid ho; have Hs := Lib.hid hs
    have q1 : (s.asked c != 0) = false := by simp [ha]
    have Hr := Lib.hid (show fitsAns c s = (((tests c s).length : Int), 0) by unfold fitsAns; rw [if_neg (by simp [ha])])
    have Ha := Lib.hid ha
    clear ha ho hs
    have hFw := hF; have hMw := hM
    rw [Hr.out]
    refine calls_marks Tryz.func28 rfl ?_
    simp only [Tryz.ntmps28, List.size_toArray, List.length_cons, List.length_nil, Nat.reduceAdd, Nat.reduceSub, Array.replicate_succ, Array.replicate_zero, List.push_toArray, List.append_toArray, List.nil_append, List.cons_append]
    go_wp2_with (first | (((with_reducible refine q_alloc (d := some 4) ti3 ?_); intro W4 g4 hE4 hB4 hg4; have hg40 : w.heap.size ≤ g4 := Nat.le_trans hE.size hg4; have hB40 : Blk W4 g4 3 #[.int .i64 0] := hB4; replace hE := hE.trans hE4; replace hF := hF.ext hE4; replace hM := hM.ext hE4; replace hK := hK.ext hE4; replace hb2_0 := Ext.cell_some hE4 hb2_0; replace hb2_1 := Ext.cell_some hE4 hb2_1; replace hb2_2 := Ext.cell_some hE4 hb2_2; replace hb3_0 := Ext.cell_some hE4 hb3_0; replace hb3_1 := Ext.cell_some hE4 hb3_1)) | ((go_at_call 72; ((with_reducible refine (popen_any _ _ _ c s _ (by exact hF) (by exact hM) HW.out (by exact SheetV.of hK)).mono ?_)); rintro e W72 ⟨v72, rfl, hE72, hN72, hT72⟩; have hB41 := hB40.ext hE72; have hE5 := hE.trans hE72; obtain ⟨gv, gm, lv, hT⟩ := hT72 Ha.out; have hTe := hT.eq; subst hTe; clear hT72 hN72; have hF72 := hF.ext hE72; have hM72 := hM.ext hE72)) | ((go_at_call 73; refine (ptests_any gv _).mono ?_; rintro e W73 ⟨gb, rfl, hE73, hgb, hBb⟩; have hB42 := hB41.ext hE73; have hE6 := hE5.trans hE73; have hT73 := hT.ext hE73; have hF73 := hF72.ext hE73; have hM73 := hM72.ext hE73)) | ((with_reducible refine q_box (d := some 2) ?_); intro W2 g2 hE2 hB2 hg2; simp [Act.eval, Act.put, Value.cells] at hB2; (try replace hE := hE.trans hE2); (try replace hF := hF.ext hE2); (try replace hM := hM.ext hE2); (try replace hK := hK.ext hE2); (try replace hB2 := hB2.ext hE2); (try replace hB3 := hB3.ext hE2); (try replace hb2_0 := Ext.cell_some hE2 hb2_0); (try replace hb2_1 := Ext.cell_some hE2 hb2_1); (try replace hb2_2 := Ext.cell_some hE2 hb2_2); (try replace hb3_0 := Ext.cell_some hE2 hb3_0); (try replace hb3_1 := Ext.cell_some hE2 hb3_1); have hb2_0 := hB2.cell 0; have hb2_1 := hB2.cell 1; have hb2_2 := hB2.cell 2; simp at hb2_0 hb2_1 hb2_2; clear hE2) | ((with_reducible refine q_box (d := some 3) ?_); intro W3 g3 hE3 hB3 hg3; simp [Act.eval, Act.put, Value.cells] at hB3; (try replace hE := hE.trans hE3); (try replace hF := hF.ext hE3); (try replace hM := hM.ext hE3); (try replace hK := hK.ext hE3); (try replace hB2 := hB2.ext hE3); (try replace hB3 := hB3.ext hE3); (try replace hb2_0 := Ext.cell_some hE3 hb2_0); (try replace hb2_1 := Ext.cell_some hE3 hb2_1); (try replace hb2_2 := Ext.cell_some hE3 hb2_2); (try replace hb3_0 := Ext.cell_some hE3 hb3_0); (try replace hb3_1 := Ext.cell_some hE3 hb3_1); have hb3_0 := hB3.cell 0; have hb3_1 := hB3.cell 1; simp at hb3_0 hb3_1; clear hE3))
    have hgv : gv ≠ g4 := blk_ne hT73.blk hB42 (by decide)
    have hgm : gm ≠ g4 := hT73.map.notblk hB42
    have hgb' : gb ≠ g4 := blk_ne hBb hB42 (by decide)
    have h4lt := hB42.lt
    refine wp_rangeFuncS (gf := 107) (lb := #[.pointer (some ⟨gb, 0, none⟩)]) rfl enters107 (ptests_seq gb gv gm fv mv lv c s Ho.out Hs.out) (fun _ => rfl) ?hGv (fun xs W => W73.grownBy W (some g4) ∧ Blk W g4 3 #[.int .i64 xs.length]) (fun _ _ _ => False) ?hI ?hIx ?hDt ?h0 ?body ?done ?stop
    case hGv => exact GivT.own _ _
    case hI =>
      rintro xs A B ⟨h1, h2⟩ hAB
      exact ⟨⟨hAB.os.trans h1.os, hAB.tape.trans h1.tape, hAB.output.trans h1.output, Nat.le_trans h1.size hAB.size, fun k hk hne => (hAB.block k hk).trans (h1.block k hk hne)⟩, (hAB.block _ h4lt).trans h2⟩
    case hIx => exact fun _ _ _ _ _ h => h.elim
    case hDt =>
      rintro xs A ⟨h1, h2⟩
      have hxA : Ext w A := below_grown hE6 h1 hg40 hE6.size
      exact DtT.grown hBb ⟨cell_blk hBb, hT73.blk, hT73.map, hF73, hM73⟩ h1 hgb' hgv hgm (hFw.ext hxA) (hMw.ext hxA)
    case h0 => exact ⟨⟨rfl, rfl, rfl, Nat.le_refl _, fun _ _ _ => rfl⟩, hB42⟩
    case body =>
      rintro l pre ⟨v, xs⟩ W ⟨h1, h2⟩ hGx hN hsz
      have cn := cell_blk h2
      have hfz : W.frozen? ⟨g4, 0, none⟩ = false := by unfold Blk at h2; simp [World.frozen?, h2]
      have zz : IntKind.i64.wrap ((pre.length : Int) + 1) = (pre.length : Int) + 1 := IntWalk.i64_in _ (by omega)
      rw [roundAct_one]
      simp only [List.setIfInBounds_toArray, List.set_cons_zero, List.set_cons_succ]
      gi_wp2_with (rw [Oper.semAt_eq _ _ _ (fun c h => by cases h)]; go_simp; try go_bits)
      have hgr : W.grownBy (W.setCell ⟨g4, 0, none⟩ (.int .i64 ((pre.length : Int) + 1))) (some g4) := grownBy_setCell' W g4 _
      have hb' := h2.set_ 0 (.int .i64 ((pre.length : Int) + 1))
      refine ⟨Up.grown hgr (fun g e => by cases e; exact h4lt), ⟨hgr.os.trans h1.os, hgr.tape.trans h1.tape, hgr.output.trans h1.output, Nat.le_trans h1.size hgr.size, fun k hk hne => (hgr.block k (Nat.lt_of_lt_of_le hk h1.size) hne).trans (h1.block k hk hne)⟩, ?_⟩
      simpa using hb'
    case done =>
      rintro D xs W hD hS ⟨h1, h2⟩ hKD
      have hxW : Ext w W := below_grown hE6 h1 hg40 hE6.size
      have cn := cell_blk h2
      have hDg : D ≠ g4 := by omega
      have h01 : 0 < (#[Value.int .i64 (xs.length : Int)] : Array Value).size := by simp
      have hlen : (tests c s).length = xs.length := by rw [← hS]; simp
      have Hlen := Lib.hid hlen
      clear hlen hS
      go_wp2_with (first | ((with_reducible refine q_store1 (t := 3) (g := g4) (off := 0) (v := .int .i64 (xs.length : Int)) ?_ ?_ h2 size3i ?_ h01 ?_ ?_); rfl; rfl; rfl; rfl; intro Ws hBs hgrs; simp at hBs; have hxS := below_grown hxW hgrs hg40 hxW.size; have hKD2 := (hgrs.block D (Array.getElem?_eq_some_iff.1 hKD).1 (fun e => hDg (Option.some.inj e))).trans hKD))
      refine postM_mark rfl hKD2 (ret_c2 rfl rfl rfl (ld_n (cell_blk (show Blk _ g4 3 #[.int .i64 (xs.length : Int)] from (World.putObj_heap_other (by omega)).trans hBs))) ?_)
      rw [Hlen.out]
      exact ⟨rfl, below_put hxS (by have := hE6.size; omega) _⟩
    case stop => intro D c pre W _ _ h; exact h.elim
  · have q1 : (s.asked c != 0) = true := by simp [ha]
    have Hr := Lib.hid (show fitsAns c s = (0, s.asked c) by unfold fitsAns; rw [if_pos ha])
    clear ha
    rw [Hr.out]
    refine calls_marks Tryz.func28 rfl ?_
    simp only [Tryz.ntmps28, List.size_toArray, List.length_cons, List.length_nil, Nat.reduceAdd, Nat.reduceSub, Array.replicate_succ, Array.replicate_zero, List.push_toArray, List.append_toArray, List.nil_append, List.cons_append]
    go_wp2_with (first | (((with_reducible refine q_alloc (d := some 4) ti3 ?_); intro W4 g4 hE4 hB4 hg4; have hg40 : w.heap.size ≤ g4 := Nat.le_trans hE.size hg4; have hB40 : Blk W4 g4 3 #[.int .i64 0] := hB4; replace hE := hE.trans hE4; replace hF := hF.ext hE4; replace hM := hM.ext hE4; replace hK := hK.ext hE4; replace hb2_0 := Ext.cell_some hE4 hb2_0; replace hb2_1 := Ext.cell_some hE4 hb2_1; replace hb2_2 := Ext.cell_some hE4 hb2_2; replace hb3_0 := Ext.cell_some hE4 hb3_0; replace hb3_1 := Ext.cell_some hE4 hb3_1)) | ((go_at_call 72; ((with_reducible refine (popen_any _ _ _ c s _ (by exact hF) (by exact hM) HW.out (by exact SheetV.of hK)).mono ?_)); rintro e W72 ⟨v72, rfl, hE72, hN72, hT72⟩; have hB41 := hB40.ext hE72; have hE5 := hE.trans hE72; have h01 : 0 < (#[Value.int .i64 0] : Array Value).size := (by simp))) | (((with_reducible refine q_store1 (t := 3) (g := g4) (off := 0) (v := .int .i64 0) ?_ ?_ hB41 size3i ?_ h01 ?_ ?_); rfl; rfl; rfl; rfl; intro Ws hBs hgrs; simp at hBs; replace hE5 := below_grown hE5 hgrs hg40 hE5.size)) | ((with_reducible refine q_box (d := some 2) ?_); intro W2 g2 hE2 hB2 hg2; simp [Act.eval, Act.put, Value.cells] at hB2; (try replace hE := hE.trans hE2); (try replace hF := hF.ext hE2); (try replace hM := hM.ext hE2); (try replace hK := hK.ext hE2); (try replace hB2 := hB2.ext hE2); (try replace hB3 := hB3.ext hE2); (try replace hb2_0 := Ext.cell_some hE2 hb2_0); (try replace hb2_1 := Ext.cell_some hE2 hb2_1); (try replace hb2_2 := Ext.cell_some hE2 hb2_2); (try replace hb3_0 := Ext.cell_some hE2 hb3_0); (try replace hb3_1 := Ext.cell_some hE2 hb3_1); have hb2_0 := hB2.cell 0; have hb2_1 := hB2.cell 1; have hb2_2 := hB2.cell 2; simp at hb2_0 hb2_1 hb2_2; clear hE2) | ((with_reducible refine q_box (d := some 3) ?_); intro W3 g3 hE3 hB3 hg3; simp [Act.eval, Act.put, Value.cells] at hB3; (try replace hE := hE.trans hE3); (try replace hF := hF.ext hE3); (try replace hM := hM.ext hE3); (try replace hK := hK.ext hE3); (try replace hB2 := hB2.ext hE3); (try replace hB3 := hB3.ext hE3); (try replace hb2_0 := Ext.cell_some hE3 hb2_0); (try replace hb2_1 := Ext.cell_some hE3 hb2_1); (try replace hb2_2 := Ext.cell_some hE3 hb2_2); (try replace hb3_0 := Ext.cell_some hE3 hb3_0); (try replace hb3_1 := Ext.cell_some hE3 hb3_1); have hb3_0 := hB3.cell 0; have hb3_1 := hB3.cell 1; simp at hb3_0 hb3_1; clear hE3))
    refine postM_none (ret_c2 rfl rfl rfl (ld_n (cell_blk hBs)) ?_)
    exact ⟨rfl, hE5⟩
end Go.Bp
end
section
/- A range over a function whose rounds assign the parameter first. No program stands in it. -/
set_option maxRecDepth 100000
namespace Go.Bp
open Go.RowKit
variable {P : Program}
theorem assign_round {l i : Nat} {p d : Tmp} {ty : TypeId} {pos : String} {b : Act} {W : World} {K : Act → World → Prop} (hK : K (b.put (some d) (b.eval (.tmp p))) W) :
    (Go.Code.region i #[{ dst := some d, op := Op.assign (Operand.tmp p), type := ty, pos := pos, after := #[], guard := none }] false).wpIn (Fence.wide.inRound l) 0 P (Exit.then K (fun _ _ _ => False)) b W := by
  gi_wp2_with (rw [Oper.semAt_eq _ _ _ (fun c h => by cases h)]; go_simp; try go_bits)
  simpa [Act.put, Act.eval] using hK
end Go.Bp
end
section
/- A range over the tests of a tablet: the law for its callers. -/
set_option maxRecDepth 100000
namespace Go.Bp
open Go.RowKit Go.Proofs
/-- B is A but for some blocks. -/
structure Near (gs : List Nat) (A B : World) : Prop where
  os : B.os = A.os
  tape : B.tape = A.tape
  output : B.output = A.output
  size : A.heap.size ≤ B.heap.size
  block : ∀ k, k < A.heap.size → k ∉ gs → B.heap[k]? = A.heap[k]?
section
variable {gs : List Nat} {w0 w A B : World}
theorem Near.refl (gs : List Nat) (A : World) : Near gs A A := ⟨rfl, rfl, rfl, Nat.le_refl _, fun _ _ _ => rfl⟩
theorem Near.below (h : Near gs w A) (k : Below w.heap.size A B) : Near gs w B :=
  ⟨k.os.trans h.os, k.tape.trans h.tape, k.output.trans h.output, Nat.le_trans h.size k.size, fun i hi hn => (k.block i hi).trans (h.block i hi hn)⟩
theorem Near.ofExt (gs : List Nat) (h : Ext A B) : Near gs A B := ⟨h.os, h.tape, h.output, h.size, fun k hk _ => h.block k hk⟩
theorem Near.grown {row : Option Nat} (h : Near gs w A) (k : A.grownBy B row) (hr : ∀ g, row = some g → g ∈ gs ∨ w.heap.size ≤ g) : Near gs w B :=
  ⟨k.os.trans h.os, k.tape.trans h.tape, k.output.trans h.output, Nat.le_trans h.size k.size, fun i hi hn => (k.block i (Nat.lt_of_lt_of_le hi h.size) (fun e => by
    rcases hr i e.symm with h1 | h1
    · exact hn h1
    · omega)).trans (h.block i hi hn)⟩
theorem Near.blk (h : Near gs A B) {g : Nat} {t : TypeId} {cs : Array Value} (hb : Blk A g t cs) (hg : g ∉ gs) : Blk B g t cs := (h.block g hb.lt hg).trans hb
theorem Near.ext (h : Near gs A B) (hE : Ext w0 A) (hg : ∀ g ∈ gs, w0.heap.size ≤ g) : Ext w0 B :=
  ⟨h.os.trans hE.os, h.tape.trans hE.tape, h.output.trans hE.output, Nat.le_trans hE.size h.size, fun k hk => (h.block k (Nat.lt_of_lt_of_le hk hE.size) (fun e => by have := hg k e; omega)).trans (hE.block k hk)⟩
theorem Near.map {κ : Type} [DecidableEq κ] {kv : κ → Value} {g : Nat} {m : κ → Option Value} (h : Near gs A B) (hm : MapM kv A g m) (hg : g ∉ gs) : MapM kv B g m := by
  have hlt := hm.lt
  obtain ⟨es, c, h1, h2⟩ := hm; exact ⟨es, c, (h.block g hlt hg).trans h1, h2⟩
theorem Near.own (gs : List Nat) (w : World) {β : Type} : OwnFrom w.heap.size (fun (_ : β) A => Near gs w A) := fun _ _ _ _ h hg hr => h.grown hg (fun g e => .inr (hr g e).1)
end
section
variable {gb gv gm : Nat} {fv mv lv : Value} {c : Code} {s : Sheet} {w0 w A : World} {gs : List Nat}
theorem DtT.near (hE : Ext w0 w) (hF : Faults w0 fv c.faults) (hM : Strs w0 mv c.man) (hb : Blk w gb 101 #[.pointer (some ⟨gv, 0, none⟩)]) (ht : Blk w gv 111 (tabCells fv mv c s.lines gm lv)) (hm : MapM ikv w gm (keptM s.kept))
    (hn : Near gs w A) (hgs : ∀ g ∈ gs, w0.heap.size ≤ g) (h1 : gb ∉ gs) (h2 : gv ∉ gs) (h3 : gm ∉ gs) : DtT gb gv gm fv mv lv c s A := by
  have hx := hn.ext hE hgs
  have := (hn.blk hb h1).cell 0
  exact ⟨by simpa using this, hn.blk ht h2, hn.map hm h3, hF.ext hx, hM.ext hx⟩
theorem wp_rangeTests {g : Operand} {p : Tmp} {assign body : Go.Code} {Q : Exit → Act → World → Prop} {a : Act}
    (hg : a.eval g = .func (.func 107) #[] #[.pointer (some ⟨gb, 0, none⟩)]) (ho : c.Ok) (hs : s.Ok c)
    (hE : Ext w0 w) (hF : Faults w0 fv c.faults) (hM : Strs w0 mv c.man) (hb : Blk w gb 101 #[.pointer (some ⟨gv, 0, none⟩)]) (ht : Blk w gv 111 (tabCells fv mv c s.lines gm lv)) (hm : MapM ikv w gm (keptM s.kept))
    (gs : List Nat) (hgs : ∀ g ∈ gs, w0.heap.size ≤ g) (h1 : gb ∉ gs) (h2 : gv ∉ gs) (h3 : gm ∉ gs)
    (R : List (List Int) → World → Prop) (Rx : Go.Code → List (List Int) → World → Prop) (hR : ∀ s A B, R s A → Below w.heap.size A B → R s B) (hRx : ∀ c, OwnFrom w.heap.size (Rx c)) (h0 : R [] w) (a₁ : Value → Act)
    (hassign : ∀ (l : Nat) (x : Value) (W : World) (K : Act → World → Prop), K (a₁ x) W →
      assign.wpIn (Fence.wide.inRound l) 0 Tryz.prog (Exit.then K (fun _ _ _ => False)) { tmps := a.tmps.setIfInBounds p x, defers := [] } W)
    (hbody : ∀ (l : Nat) (pre : List (List Int)) (v : Value) (t : List Int) (W : World), Near gs w W → R pre W → IntB W v t → c.TestOk t → (t.length : Int) = s.lines → pre.length < 729 → w.heap.size < W.heap.size → Ext w0 W → DtT gb gv gm fv mv lv c s W →
      body.wpIn (Fence.wide.inRound l) 0 Tryz.prog (postC w.heap.size (fun xs W' => Near gs w W' ∧ R xs W') (fun e xs W' => Near gs w W' ∧ Rx e xs W') (pre ++ [t]) W) (a₁ v) W)
    (hdone : ∀ (D : Nat) (W : World), w.heap.size ≤ D → Near gs w W → R (tests c s) W → Ext w0 W → W.heap[D]? = some (.deferred (some [])) → Q .normal { a with defers := { target := .collected D, args := #[] } :: a.defers } W)
    (hstop : ∀ (D : Nat) (e : Go.Code) (pre : List (List Int)) (W : World), w.heap.size ≤ D → pre <+: tests c s → Near gs w W → Rx e pre W → Ext w0 W → W.heap[D]? = some (.deferred (some [])) → e.wp Tryz.prog Q { a with defers := { target := .collected D, args := #[] } :: a.defers } W) :
    (Go.Code.rangeFunc g #[p] assign body).wp Tryz.prog Q a w := by
  refine wp_rangeFuncC hg (enters_of Tryz.func107 (by kernel_rfl) rfl) (ptests_seq gb gv gm fv mv lv c s ho hs) (fun _ => rfl) (GivT.own _ _)
    (fun xs W => Near gs w W ∧ R (xs.map Prod.snd) W) (fun e xs W => Near gs w W ∧ Rx e (xs.map Prod.snd) W)
    (fun xs A B h hAB => ⟨h.1.below hAB, hR _ _ _ h.2 hAB⟩) (fun e => ?_) (fun xs A h => DtT.near hE hF hM hb ht hm h.1 hgs h1 h2 h3) ⟨Near.refl _ _, h0⟩ (fun x => a₁ x.1) ?_ ?_ ?_ ?_
  · intro xs A B row h hg hr
    exact ⟨Near.own gs w xs A B row h.1 hg hr, hRx e _ A B row h.2 hg hr⟩
  · intro l x W K hK
    have := hassign l x.1 W K hK
    simpa using this
  · intro l pre x W hI hG hN hsz
    have hx := hI.1.ext hE hgs
    refine wpIn_mono (hbody l (pre.map Prod.snd) x.1 x.2 W hI.1 hI.2 hG.1 (hG.ok hs) (by have := hG.2.1; have := hs.l1; omega) (by simpa using hN) hsz hx (DtT.near hE hF hM hb ht hm hI.1 hgs h1 h2 h3)) ?_
    intro e b W' h
    cases e <;> first | (simp [postC] at h; done) | simpa [postC, List.map_append] using h
  · intro D xs W hD hS hI hK
    refine hdone D W hD hI.1 ?_ (hI.1.ext hE hgs) hK
    rw [← hS]; exact hI.2
  · intro D e pre W hD hS hI hK
    exact hstop D e _ W hD hS hI.1 hI.2 (hI.1.ext hE hgs) hK
theorem wp_rangeTestsS {g : Operand} {p : Tmp} {body : Go.Code} {Q : Exit → Act → World → Prop} {a : Act}
    (hg : a.eval g = .func (.func 107) #[] #[.pointer (some ⟨gb, 0, none⟩)]) (ho : c.Ok) (hs : s.Ok c)
    (hE : Ext w0 w) (hF : Faults w0 fv c.faults) (hM : Strs w0 mv c.man) (hb : Blk w gb 101 #[.pointer (some ⟨gv, 0, none⟩)]) (ht : Blk w gv 111 (tabCells fv mv c s.lines gm lv)) (hm : MapM ikv w gm (keptM s.kept))
    (gs : List Nat) (hgs : ∀ g ∈ gs, w0.heap.size ≤ g) (h1 : gb ∉ gs) (h2 : gv ∉ gs) (h3 : gm ∉ gs)
    (R : List (List Int) → World → Prop) (Rx : Go.Code → List (List Int) → World → Prop) (hR : ∀ s A B, R s A → Below w.heap.size A B → R s B) (hRx : ∀ c, OwnFrom w.heap.size (Rx c)) (h0 : R [] w)
    (hbody : ∀ (l : Nat) (pre : List (List Int)) (v : Value) (t : List Int) (W : World), Near gs w W → R pre W → IntB W v t → c.TestOk t → (t.length : Int) = s.lines → pre.length < 729 → w.heap.size < W.heap.size → Ext w0 W → DtT gb gv gm fv mv lv c s W →
      body.wpIn (Fence.wide.inRound l) 0 Tryz.prog (postC w.heap.size (fun xs W' => Near gs w W' ∧ R xs W') (fun e xs W' => Near gs w W' ∧ Rx e xs W') (pre ++ [t]) W) ({ tmps := a.tmps.setIfInBounds p v, defers := [] }) W)
    (hdone : ∀ (D : Nat) (W : World), w.heap.size ≤ D → Near gs w W → R (tests c s) W → Ext w0 W → W.heap[D]? = some (.deferred (some [])) → Q .normal { a with defers := { target := .collected D, args := #[] } :: a.defers } W)
    (hstop : ∀ (D : Nat) (e : Go.Code) (pre : List (List Int)) (W : World), w.heap.size ≤ D → pre <+: tests c s → Near gs w W → Rx e pre W → Ext w0 W → W.heap[D]? = some (.deferred (some [])) → e.wp Tryz.prog Q { a with defers := { target := .collected D, args := #[] } :: a.defers } W) :
    (Go.Code.rangeFunc g #[p] .skip body).wp Tryz.prog Q a w :=
  wp_rangeTests hg ho hs hE hF hM hb ht hm gs hgs h1 h2 h3 R Rx hR hRx h0 (fun v => { tmps := a.tmps.setIfInBounds p v, defers := [] }) (fun _ _ _ _ hK => wpIn_skip hK) hbody hdone hstop
theorem wp_rangeTestsA {g : Operand} {p : Tmp} {ri : Nat} {d : Tmp} {rty : TypeId} {rpos : String} {body : Go.Code} {Q : Exit → Act → World → Prop} {a : Act}
    (hg : a.eval g = .func (.func 107) #[] #[.pointer (some ⟨gb, 0, none⟩)]) (ho : c.Ok) (hs : s.Ok c)
    (hE : Ext w0 w) (hF : Faults w0 fv c.faults) (hM : Strs w0 mv c.man) (hb : Blk w gb 101 #[.pointer (some ⟨gv, 0, none⟩)]) (ht : Blk w gv 111 (tabCells fv mv c s.lines gm lv)) (hm : MapM ikv w gm (keptM s.kept))
    (gs : List Nat) (hgs : ∀ g ∈ gs, w0.heap.size ≤ g) (h1 : gb ∉ gs) (h2 : gv ∉ gs) (h3 : gm ∉ gs)
    (R : List (List Int) → World → Prop) (Rx : Go.Code → List (List Int) → World → Prop) (hR : ∀ s A B, R s A → Below w.heap.size A B → R s B) (hRx : ∀ c, OwnFrom w.heap.size (Rx c)) (h0 : R [] w)
    (hbody : ∀ (l : Nat) (pre : List (List Int)) (v : Value) (t : List Int) (W : World), Near gs w W → R pre W → IntB W v t → c.TestOk t → (t.length : Int) = s.lines → pre.length < 729 → w.heap.size < W.heap.size → Ext w0 W → DtT gb gv gm fv mv lv c s W →
      body.wpIn (Fence.wide.inRound l) 0 Tryz.prog (postC w.heap.size (fun xs W' => Near gs w W' ∧ R xs W') (fun e xs W' => Near gs w W' ∧ Rx e xs W') (pre ++ [t]) W) (Act.put { tmps := a.tmps.setIfInBounds p v, defers := [] } (some d) (Act.eval { tmps := a.tmps.setIfInBounds p v, defers := [] } (.tmp p))) W)
    (hdone : ∀ (D : Nat) (W : World), w.heap.size ≤ D → Near gs w W → R (tests c s) W → Ext w0 W → W.heap[D]? = some (.deferred (some [])) → Q .normal { a with defers := { target := .collected D, args := #[] } :: a.defers } W)
    (hstop : ∀ (D : Nat) (e : Go.Code) (pre : List (List Int)) (W : World), w.heap.size ≤ D → pre <+: tests c s → Near gs w W → Rx e pre W → Ext w0 W → W.heap[D]? = some (.deferred (some [])) → e.wp Tryz.prog Q { a with defers := { target := .collected D, args := #[] } :: a.defers } W) :
    (Go.Code.rangeFunc g #[p] (Go.Code.region ri #[{ dst := some d, op := Op.assign (Operand.tmp p), type := rty, pos := rpos, after := #[], guard := none }] false) body).wp Tryz.prog Q a w :=
  wp_rangeTests hg ho hs hE hF hM hb ht hm gs hgs h1 h2 h3 R Rx hR hRx h0 (fun v => Act.put { tmps := a.tmps.setIfInBounds p v, defers := [] } (some d) (Act.eval { tmps := a.tmps.setIfInBounds p v, defers := [] } (.tmp p))) (fun _ _ _ _ hK => assign_round hK) hbody hdone hstop
end
end Go.Bp
end
section
set_option maxRecDepth 100000
set_option linter.unusedSimpArgs false
set_option linter.unusedVariables false
namespace Go.Bp
open Go.RowKit Go.Proofs
theorem ti101 : (Tryz.prog.info? 101).map (fun i => (i.zero, i.size, i.bytes)) = some (some (.pointer none), 1, 8) := by kernel_rfl
theorem ti27 : (Tryz.prog.info? 27).map (fun i => (i.zero, i.size, i.bytes)) = some (some (.int .i64 0), 1, 8) := by kernel_rfl
theorem size101 : (Tryz.prog.info? 101).map TypeInfo.size = some 1 := by kernel_rfl
theorem size27 : (Tryz.prog.info? 27).map TypeInfo.size = some 1 := by kernel_rfl
theorem ret_cc {P : Program} {fn : Func} {R : Ending → World → Prop} {x y : Tmp} {t u : TypeId} {a : Act} {w : World} {p q : Addr} {v z : Value} (h : fn.results = #[.cell x t, .cell y u]) (hd : a.defers = [])
    (hx : a.tmps.getD x undef = .pointer (some p)) (hy : a.tmps.getD y undef = .pointer (some q)) (hl : (loadVar t p).run P w = .ok v w) (hm : (loadVar u q).run P w = .ok z w) (hR : R (.returned (.tuple #[v, z])) w) : bodyPost P fn R .ret a w := by
  have hx' : a.tmps[x]?.getD undef = .pointer (some p) := by simpa [Array.getD_eq_getD_getElem?] using hx
  have hy' : a.tmps[y]?.getD undef = .pointer (some q) := by simpa [Array.getD_eq_getD_getElem?] using hy
  refine bodyPost_ret ?_ hd hR
  simp [results, h, hx', hy', asAddr, hl, hm, Result.andThen, Sem.run_bind]
theorem info101i : ∃ i, Tryz.prog.info? 101 = some i ∧ i.size = 1 := size_of size101
theorem info27i : ∃ i, Tryz.prog.info? 27 = some i ∧ i.size = 1 := size_of size27
theorem ld_p {w : World} {p : Addr} {n : Option Addr} (h : w.cell? p = some (.pointer n)) : (loadVar 101 p).run Tryz.prog w = .ok (.pointer n) w := by
  obtain ⟨i, hi, hs⟩ := info101i
  simp [loadVar, sizeOf, typeInfo, hi, hs, h, Sem.run, Sem.run_bind, Result.andThen]
theorem ld_e {w : World} {p : Addr} {n : Int} (h : w.cell? p = some (.int .i64 n)) : (loadVar 27 p).run Tryz.prog w = .ok (.int .i64 n) w := by
  obtain ⟨i, hi, hs⟩ := info27i
  simp [loadVar, sizeOf, typeInfo, hi, hs, h, Sem.run, Sem.run_bind, Result.andThen]
theorem Blk.ofOwn {B g : Nat} {W W' : World} {t : TypeId} {cs : Array Value} {row : Option Nat} (h : Blk W g t cs) (hg : W.grownBy W' row) (hr : ∀ r, row = some r → B ≤ r ∧ ∃ o : Obj, W.heap[r]? = some o ∧ o.isCells = false) : Blk W' g t cs := by
  refine h.grown hg (fun e => ?_)
  obtain ⟨_, o, ho, hc⟩ := hr g e.symm
  unfold Blk at h
  rw [h] at ho; injection ho with ho; subst ho; cases hc
theorem own_heap {w W : World} {B : Nat} {e : TypeId} {size n : Nat} {v : Value} {xs : List Value} (h : w.ownsRow B e size v n xs) (hh : ∀ g, v.ownBlock = some g → W.heap[g]? = w.heap[g]?) : W.ownsRow B e size v n xs := by
  refine ⟨h.1, ?_⟩
  rcases h.2 with h1 | ⟨g, cap, cur, h3, h4, h5, h6⟩
  · exact .inl h1
  · exact .inr ⟨g, cap, cur, h3, h4, (hh g (by rw [h3]; rfl)).trans h5, h6⟩
theorem TabOk.near {B : Nat} {w W : World} {v : Value} {c : Code} {s : Sheet} {gt gm : Nat} {fv mv lv : Value} {gs : List Nat} (h : TabOk B w v c s gt gm fv mv lv) (hn : Near gs w W) (h1 : gt ∉ gs) (h2 : gm ∉ gs) (h3 : ∀ g ∈ gs, lv.ownBlock ≠ some g) : TabOk B W v c s gt gm fv mv lv :=
  ⟨h.eq, h.b1, h.b2, hn.blk h.blk h1, hn.map h.map h2, own_heap h.lost fun g e => hn.block g (h.lost.lt g e).2 (fun hm => h3 g hm e)⟩
theorem TabOk.put {B D : Nat} {w : World} {v : Value} {c : Code} {s : Sheet} {gt gm : Nat} {fv mv lv : Value} {o : Obj} (h : TabOk B w v c s gt gm fv mv lv) (h1 : gt ≠ D) (h2 : gm ≠ D) (h3 : lv.ownBlock ≠ some D) : TabOk B (w.putObj D o) v c s gt gm fv mv lv := by
  refine ⟨h.eq, h.b1, h.b2, (World.putObj_heap_other h1).trans h.blk, ?_, own_heap h.lost fun g e => World.putObj_heap_other (fun e2 => h3 (e2 ▸ e))⟩
  obtain ⟨es, ck, h4, h5⟩ := h.map
  exact ⟨es, ck, (World.putObj_heap_other h2).trans h4, h5⟩
theorem frozen_set {W : World} {p : Addr} {v : Value} {g : Nat} {t : TypeId} {cs : Array Value} (h : Blk W g t cs) (hne : g ≠ p.block) : (W.setCell p v).frozen? ⟨g, 0, none⟩ = false := (h.far hne v).frozen 0
set_option maxHeartbeats 4000000 in
theorem pfitting_any (fv mv sv : Value) (c : Code) (s : Sheet) (w : World) (hF : Faults w fv c.faults) (hM : Strs w mv c.man) (hW : c.wf) (hsv : SheetV w sv s) :
    Calls Tryz.prog 76 #[.agg #[fv, mv, .int .i64 c.all], sv] w (RetT w c s fv mv (fittingErr c s)) := by
  obtain ⟨kv, rfl, hK⟩ := hsv
  have hE := Ext.refl w
  have HW := Lib.hid hW
  clear hW
  by_cases ha : s.asked c = 0
  · obtain ⟨ho, hs⟩ := asked_zero ha
    have Ho := Lib.hid ho; have Hs := Lib.hid hs
    have q1 : (s.asked c != 0) = false := by simp [ha]
    have Ha := Lib.hid ha
    have hFw := hF; have hMw := hM
    clear ha ho hs
    refine calls_marks Tryz.func76 rfl ?_
    simp only [Tryz.ntmps76, List.size_toArray, List.length_cons, List.length_nil, Nat.reduceAdd, Nat.reduceSub, Array.replicate_succ, Array.replicate_zero, List.push_toArray, List.append_toArray, List.nil_append, List.cons_append]
    go_wp2_with (first | (((with_reducible refine q_alloc (d := some 4) ti101 ?_); intro W4 g4 hE4 hB4 hg4; have hg40 : w.heap.size ≤ g4 := Nat.le_trans hE.size hg4; have hB40 : Blk W4 g4 101 #[.pointer none] := hB4; replace hE := hE.trans hE4; replace hF := hF.ext hE4; replace hM := hM.ext hE4; replace hK := hK.ext hE4; replace hb2_0 := Ext.cell_some hE4 hb2_0; replace hb2_1 := Ext.cell_some hE4 hb2_1; replace hb2_2 := Ext.cell_some hE4 hb2_2; replace hb3_0 := Ext.cell_some hE4 hb3_0; replace hb3_1 := Ext.cell_some hE4 hb3_1)) | (((with_reducible refine q_alloc (d := some 5) ti27 ?_); intro W5 g5 hE5 hB5 hg5; have hg50 : w.heap.size ≤ g5 := Nat.le_trans hE.size hg5; have hB50 : Blk W5 g5 27 #[.int .i64 0] := hB5; replace hE := hE.trans hE5; replace hF := hF.ext hE5; replace hM := hM.ext hE5; replace hK := hK.ext hE5; replace hB40 := hB40.ext hE5; replace hb2_0 := Ext.cell_some hE5 hb2_0; replace hb2_1 := Ext.cell_some hE5 hb2_1; replace hb2_2 := Ext.cell_some hE5 hb2_2; replace hb3_0 := Ext.cell_some hE5 hb3_0; replace hb3_1 := Ext.cell_some hE5 hb3_1)) | ((go_at_call 72; ((with_reducible refine (popen_any _ _ _ c s _ (by exact hF) (by exact hM) HW.out (by exact SheetV.of hK)).mono ?_)); rintro e W72 ⟨v72, rfl, hE72, hN72, hT72⟩; have hB41 := hB40.ext hE72; have hB51 := hB50.ext hE72; have hE6 := hE.trans hE72; obtain ⟨gv, gm, lv, hT⟩ := hT72 Ha.out; have hTe := hT.eq; subst hTe; clear hT72 hN72; replace hT := hT.base hE.size)) | (((with_reducible refine q_newvar (e := 101) (u := 6) (v := .pointer (some ⟨gv, 0, none⟩)) ti101 ?_ ?_ ?_ ?_ ?_ ?_); (intro g; rfl); (intro g; rfl); rfl; rfl; (simp [Value.cells, Value.oneCell']); intro W7 g7 hE7 hB7 hg7; have l41 := hB41.lt; simp [Value.cells] at hB7; replace hB41 := hB41.ext hE7; replace hB51 := hB51.ext hE7; replace hT := hT.ext hE7; replace hE6 := hE6.trans hE7; have c7 := cell_blk hB7)) | ((go_at_call 73; refine (ptests_any gv _).mono ?_; rintro e W73 ⟨gb, rfl, hE73, hgb, hBb⟩; have hB42 := hB41.ext hE73; have hB52 := hB51.ext hE73; have hT73 := hT.ext hE73; have hB72 := hB7.ext hE73; replace hE6 := hE6.trans hE73)) | ((with_reducible refine q_box (d := some 2) ?_); intro W2 g2 hE2 hB2 hg2; simp [Act.eval, Act.put, Value.cells] at hB2; (try replace hE := hE.trans hE2); (try replace hF := hF.ext hE2); (try replace hM := hM.ext hE2); (try replace hK := hK.ext hE2); (try replace hB2 := hB2.ext hE2); (try replace hB3 := hB3.ext hE2); (try replace hb2_0 := Ext.cell_some hE2 hb2_0); (try replace hb2_1 := Ext.cell_some hE2 hb2_1); (try replace hb2_2 := Ext.cell_some hE2 hb2_2); (try replace hb3_0 := Ext.cell_some hE2 hb3_0); (try replace hb3_1 := Ext.cell_some hE2 hb3_1); have hb2_0 := hB2.cell 0; have hb2_1 := hB2.cell 1; have hb2_2 := hB2.cell 2; simp at hb2_0 hb2_1 hb2_2; clear hE2) | ((with_reducible refine q_box (d := some 3) ?_); intro W3 g3 hE3 hB3 hg3; simp [Act.eval, Act.put, Value.cells] at hB3; (try replace hE := hE.trans hE3); (try replace hF := hF.ext hE3); (try replace hM := hM.ext hE3); (try replace hK := hK.ext hE3); (try replace hB2 := hB2.ext hE3); (try replace hB3 := hB3.ext hE3); (try replace hb2_0 := Ext.cell_some hE3 hb2_0); (try replace hb2_1 := Ext.cell_some hE3 hb2_1); (try replace hb2_2 := Ext.cell_some hE3 hb2_2); (try replace hb3_0 := Ext.cell_some hE3 hb3_0); (try replace hb3_1 := Ext.cell_some hE3 hb3_1); have hb3_0 := hB3.cell 0; have hb3_1 := hB3.cell 1; simp at hb3_0 hb3_1; clear hE3))
    have n4b : gb ≠ g4 := fun e => by have := hB41.lt; omega
    have n5b : gb ≠ g5 := fun e => by have := hB51.lt; omega
    have n4v : gv ≠ g4 := blk_ne hT73.blk hB42 (by decide)
    have n5v : gv ≠ g5 := blk_ne hT73.blk hB52 (by decide)
    have n4m : gm ≠ g4 := hT73.map.notblk hB42
    have n5m : gm ≠ g5 := hT73.map.notblk hB52
    have n45 : g4 ≠ g5 := blk_ne hB42 hB52 (by decide)
    have n47 : g7 ≠ g4 := by omega
    have n57 : g7 ≠ g5 := blk_ne hB72 hB52 (by decide)
    have l4 := hB42.lt; have l5 := hB52.lt
    refine wp_rangeTestsS (gb := gb) (gv := gv) (gm := gm) (fv := fv) (mv := mv) (lv := lv) (c := c) (s := s) (w0 := w) rfl Ho.out Hs.out hE6 hFw hMw hBb hT73.blk hT73.map [g4, g5] ?hgs ?n1 ?n2 ?n3 (fun xs W => xs = [] ∧ Blk W g4 101 #[.pointer none] ∧ Blk W g5 27 #[.int .i64 0]) (fun e xs W => e = .ret ∧ xs ≠ [] ∧ Blk W g4 101 #[.pointer (some ⟨gv, 0, none⟩)] ∧ Blk W g5 27 #[.int .i64 0]) ?hR ?hRx ⟨rfl, hB42, hB52⟩ ?body ?done ?stop
    case hgs => intro g hg; simp at hg; rcases hg with rfl | rfl <;> assumption
    case n1 => simp; exact ⟨n4b, n5b⟩
    case n2 => simp; exact ⟨n4v, n5v⟩
    case n3 => simp; exact ⟨n4m, n5m⟩
    case hR => rintro xs A B ⟨h1, h2, h3⟩ hAB; exact ⟨h1, (hAB.block _ l4).trans h2, (hAB.block _ l5).trans h3⟩
    case hRx => rintro e xs A B row ⟨h1, h2, h3, h4⟩ hg hr; exact ⟨h1, h2, h3.ofOwn hg hr, h4.ofOwn hg hr⟩
    case body =>
      rintro l pre v t W hn ⟨rfl, h4, h5⟩ hv ht hl hN hsz hx hD
      have c7 := cell_blk (hn.blk hB72 (by simp; exact ⟨n47, n57⟩))
      have f4 : W.frozen? ⟨g4, 0, none⟩ = false := h4.frozen 0
      have f5 : (W.setCell ⟨g4, 0, none⟩ (.pointer (some ⟨gv, 0, none⟩))).frozen? ⟨g5, 0, none⟩ = false := frozen_set h5 n45.symm
      have c4 := cell_blk h4; have c5 := cell_blk h5
      have c5' : (W.setCell ⟨g4, 0, none⟩ (.pointer (some ⟨gv, 0, none⟩))).cell? ⟨g5, 0, none⟩ = some (.int .i64 0) := cell_blk (h5.far n45.symm _)
      simp only [List.setIfInBounds_toArray, List.set_cons_zero, List.set_cons_succ]
      gi_wp2_with (rw [Oper.semAt_eq _ _ _ (fun c h => by cases h)]; go_simp; try go_bits)
      have hgr1 := grownBy_setCell' W g4 (.pointer (some ⟨gv, 0, none⟩))
      have hgr2 := grownBy_setCell' (W.setCell ⟨g4, 0, none⟩ (.pointer (some ⟨gv, 0, none⟩))) g5 (.int .i64 0)
      have b4 := h4.set_ 0 (.pointer (some ⟨gv, 0, none⟩))
      have b5 := (h5.far (p := ⟨g4, 0, none⟩) n45.symm (.pointer (some ⟨gv, 0, none⟩))).set_ 0 (.int .i64 0)
      simp at b4 b5
      exact ⟨(Up.grown hgr1 (fun g e => by cases e; exact l4)).trans (Up.grown hgr2 (fun g e => by cases e; exact l5)), (hn.grown hgr1 (fun g e => by cases e; simp)).grown hgr2 (fun g e => by cases e; simp), rfl, by simp, b4.far n45 _, b5⟩
    case done =>
      rintro D W hD hn ⟨h1, h4, h5⟩ hx hK
      have Hr := Lib.hid (fitting_9 Ha.out h1)
      have f4 : W.frozen? ⟨g4, 0, none⟩ = false := h4.frozen 0
      have f5 : (W.setCell ⟨g4, 0, none⟩ (.pointer none)).frozen? ⟨g5, 0, none⟩ = false := frozen_set h5 n45.symm
      have c4 := cell_blk h4; have c5 := cell_blk h5
      have c5' : (W.setCell ⟨g4, 0, none⟩ (.pointer none)).cell? ⟨g5, 0, none⟩ = some (.int .i64 0) := cell_blk (h5.far n45.symm _)
      have hgr1 := grownBy_setCell' W g4 (.pointer none)
      have hgr2 := grownBy_setCell' (W.setCell ⟨g4, 0, none⟩ (.pointer none)) g5 (.int .i64 9)
      have b4 := h4.set_ 0 (.pointer none)
      have b5 := (h5.far (p := ⟨g4, 0, none⟩) n45.symm (.pointer none)).set_ 0 (.int .i64 9)
      simp at b4 b5
      have b4' := b4.far (p := ⟨g5, 0, none⟩) n45 (.int .i64 9)
      have hx2 := below_grown (below_grown hx hgr1 hg40 hx.size) hgr2 hg50 (Nat.le_trans hx.size hgr1.size)
      have hDlt := (Array.getElem?_eq_some_iff.1 hK).1
      have hK2 := (hgr2.block D (Nat.lt_of_lt_of_le hDlt hgr1.size) (fun e => by injection e with e; omega)).trans ((hgr1.block D hDlt (fun e => by injection e with e; omega)).trans hK)
      clear hgr1 hgr2 h1
      go_wp2
      refine postM_mark rfl hK2 (ret_cc rfl rfl rfl rfl (ld_p (cell_blk (show Blk _ g4 101 #[.pointer none] from (World.putObj_heap_other (by omega)).trans b4'))) (ld_e (cell_blk (show Blk _ g5 27 #[.int .i64 9] from (World.putObj_heap_other (by omega)).trans b5))) ?_)
      rw [Hr.out]
      exact RetT.no (err := 9) (below_put hx2 (show w.heap.size ≤ D by have := hE6.size; omega) _) (by decide)
    case stop =>
      rintro D e pre W hD hp hn ⟨rfl, h1, h4, h5⟩ hx hK
      have Hr := Lib.hid (fitting_0 Ha.out (fun e => h1 (by rw [e] at hp; exact List.prefix_nil.1 hp)))
      rw [Hr.out]
      refine wp_ret ?_
      refine postM_mark rfl hK (ret_cc rfl rfl rfl rfl (ld_p (cell_blk (show Blk _ g4 101 #[.pointer (some ⟨gv, 0, none⟩)] from (World.putObj_heap_other (by omega)).trans h4))) (ld_e (cell_blk (show Blk _ g5 27 #[.int .i64 0] from (World.putObj_heap_other (by omega)).trans h5))) ?_)
      have hx2 := below_put hx (show w.heap.size ≤ D by have := hE6.size; omega) (.deferred none)
      refine ⟨_, rfl, hx2, fun e => absurd rfl e, fun _ => ⟨gv, gm, lv, ?_⟩⟩
      have lb := hT73.blk.lt; have lm := hT73.map.lt
      exact (hT73.near hn (by simp; exact ⟨n4v, n5v⟩) (by simp; exact ⟨n4m, n5m⟩) (by intro g hg; simp at hg; rcases hg with rfl | rfl; exact own_ne hT73.lost hB42 (.inl (by decide)); exact own_ne hT73.lost hB52 (.inl (by decide)))).put (by omega) (by omega) (fun e => by have := (hT73.lost.lt D e).2; omega)
  · have q1 : (s.asked c != 0) = true := by simp [ha]
    have Hr := Lib.hid (show fittingErr c s = s.asked c by unfold fittingErr; rw [if_pos ha])
    have Ha := Lib.hid ha
    clear ha
    rw [Hr.out]
    refine calls_marks Tryz.func76 rfl ?_
    simp only [Tryz.ntmps76, List.size_toArray, List.length_cons, List.length_nil, Nat.reduceAdd, Nat.reduceSub, Array.replicate_succ, Array.replicate_zero, List.push_toArray, List.append_toArray, List.nil_append, List.cons_append]
    go_wp2_with (first | (((with_reducible refine q_alloc (d := some 4) ti101 ?_); intro W4 g4 hE4 hB4 hg4; have hg40 : w.heap.size ≤ g4 := Nat.le_trans hE.size hg4; have hB40 : Blk W4 g4 101 #[.pointer none] := hB4; replace hE := hE.trans hE4; replace hF := hF.ext hE4; replace hM := hM.ext hE4; replace hK := hK.ext hE4; replace hb2_0 := Ext.cell_some hE4 hb2_0; replace hb2_1 := Ext.cell_some hE4 hb2_1; replace hb2_2 := Ext.cell_some hE4 hb2_2; replace hb3_0 := Ext.cell_some hE4 hb3_0; replace hb3_1 := Ext.cell_some hE4 hb3_1)) | (((with_reducible refine q_alloc (d := some 5) ti27 ?_); intro W5 g5 hE5 hB5 hg5; have hg50 : w.heap.size ≤ g5 := Nat.le_trans hE.size hg5; have hB50 : Blk W5 g5 27 #[.int .i64 0] := hB5; replace hE := hE.trans hE5; replace hF := hF.ext hE5; replace hM := hM.ext hE5; replace hK := hK.ext hE5; replace hB40 := hB40.ext hE5; replace hb2_0 := Ext.cell_some hE5 hb2_0; replace hb2_1 := Ext.cell_some hE5 hb2_1; replace hb2_2 := Ext.cell_some hE5 hb2_2; replace hb3_0 := Ext.cell_some hE5 hb3_0; replace hb3_1 := Ext.cell_some hE5 hb3_1)) | ((go_at_call 72; ((with_reducible refine (popen_any _ _ _ c s _ (by exact hF) (by exact hM) HW.out (by exact SheetV.of hK)).mono ?_)); rintro e W72 ⟨v72, rfl, hE72, hN72, hT72⟩; have hB41 := hB40.ext hE72; have hB51 := hB50.ext hE72; have hE6 := hE.trans hE72; have hv72 := hN72 Ha.out; subst hv72; have h01 : 0 < (#[Value.pointer none] : Array Value).size := (by simp))) | (((with_reducible refine q_newvar (e := 101) (u := 6) (v := .pointer none) ti101 ?_ ?_ ?_ ?_ ?_ ?_); (intro g; rfl); (intro g; rfl); rfl; rfl; (simp [Value.cells, Value.oneCell']); intro W7 g7 hE7 hB7 hg7; replace hB41 := hB41.ext hE7; replace hB51 := hB51.ext hE7; replace hE6 := hE6.trans hE7)) | (((with_reducible refine q_store1 (t := 101) (g := g4) (off := 0) (v := .pointer none) ?_ ?_ hB41 size101 ?_ h01 ?_ ?_); rfl; rfl; rfl; rfl; intro Ws hBs hgrs; simp at hBs; have hne := blk_ne hB51 hB41 (by decide); have hB52 := hB51.grown hgrs (fun e => hne (Option.some.inj e)); have hE8 := below_grown hE6 hgrs hg40 hE6.size; have h02 : 0 < (#[Value.int .i64 0] : Array Value).size := (by simp))) | (((with_reducible refine q_store1 (t := 27) (g := g5) (off := 0) (v := .int .i64 (s.asked c)) ?_ ?_ hB52 size27 ?_ h02 ?_ ?_); rfl; rfl; rfl; rfl; intro Wt hBt hgrt; simp at hBt; have hB43 := hBs.grown hgrt (fun e => hne (Option.some.inj e).symm); have hE9 := below_grown hE8 hgrt hg50 hE8.size)) | ((with_reducible refine q_box (d := some 2) ?_); intro W2 g2 hE2 hB2 hg2; simp [Act.eval, Act.put, Value.cells] at hB2; (try replace hE := hE.trans hE2); (try replace hF := hF.ext hE2); (try replace hM := hM.ext hE2); (try replace hK := hK.ext hE2); (try replace hB2 := hB2.ext hE2); (try replace hB3 := hB3.ext hE2); (try replace hb2_0 := Ext.cell_some hE2 hb2_0); (try replace hb2_1 := Ext.cell_some hE2 hb2_1); (try replace hb2_2 := Ext.cell_some hE2 hb2_2); (try replace hb3_0 := Ext.cell_some hE2 hb3_0); (try replace hb3_1 := Ext.cell_some hE2 hb3_1); have hb2_0 := hB2.cell 0; have hb2_1 := hB2.cell 1; have hb2_2 := hB2.cell 2; simp at hb2_0 hb2_1 hb2_2; clear hE2) | ((with_reducible refine q_box (d := some 3) ?_); intro W3 g3 hE3 hB3 hg3; simp [Act.eval, Act.put, Value.cells] at hB3; (try replace hE := hE.trans hE3); (try replace hF := hF.ext hE3); (try replace hM := hM.ext hE3); (try replace hK := hK.ext hE3); (try replace hB2 := hB2.ext hE3); (try replace hB3 := hB3.ext hE3); (try replace hb2_0 := Ext.cell_some hE3 hb2_0); (try replace hb2_1 := Ext.cell_some hE3 hb2_1); (try replace hb2_2 := Ext.cell_some hE3 hb2_2); (try replace hb3_0 := Ext.cell_some hE3 hb3_0); (try replace hb3_1 := Ext.cell_some hE3 hb3_1); have hb3_0 := hB3.cell 0; have hb3_1 := hB3.cell 1; simp at hb3_0 hb3_1; clear hE3))
    refine postM_none (ret_cc rfl rfl rfl rfl (ld_p (cell_blk hB43)) (ld_e (cell_blk hBt)) ?_)
    exact RetT.no hE9 Ha.out
end Go.Bp
end
section
/- Regions inside a round, by the laws for regions anywhere. No program stands in it. -/
set_option maxRecDepth 100000
namespace Go.Bp
open Go.RowKit
section
variable {P : Program} {md : Region.Mode} {ops : Array Oper} {Q : Exit → Act → World → Prop} {n : Nat}
def noDefer (ops : Array Oper) : Bool := ops.all fun o => match o.op with | .defer _ => false | _ => true
theorem noDefer_at (h : noDefer ops = true) {i : Nat} {o : Oper} (ho : ops[i]? = some o) : ∀ c, o.op ≠ .defer c := by
  intro c e
  unfold noDefer at h
  rw [Array.all_eq_true] at h
  obtain ⟨hi, rfl⟩ := Array.getElem?_eq_some_iff.1 ho
  have := h i hi
  rw [e] at this; cases this
theorem wpOpIn_of_wp {i l : Nat} {K K' : Act → World → Prop} {a : Act} {w : World} (hd : noDefer ops = true) (hQ : ¬ LetsOut Q) (hK : ∀ a w, K a w → K' a w) (h : wpOp P ops Q i K a w) : wpOpIn (Fence.wide.inRound l) n P ops Q i K' a w := by
  unfold wpOpIn
  unfold wpOp at h
  cases ho : ops[i]? with
  | none => rw [ho] at h; exact hK _ _ h
  | some o =>
    rw [ho] at h
    simp only at h ⊢
    split at h
    · rename_i hw
      rw [if_pos hw]
      rcases h with h | ⟨_, h2⟩
      · exact operIn_of_wp (noDefer_at hd ho) hK h
      · exact absurd h2 hQ
    · rename_i hw
      rw [if_neg hw]
      exact ⟨fun _ _ => trivial, hK _ _ h⟩
theorem wpAnyIn_of_any {l : Nat} (hd : noDefer ops = true) (hQ : ¬ LetsOut Q) : ∀ (fuel : Nat) (listed : Array Bool) (a : Act) (w : World), wpAny P md ops Q fuel listed a w → wpAnyIn (Fence.wide.inRound l) n P md ops Q fuel listed a w
  | 0, _, _, _, h => h
  | fuel + 1, listed, a, w, h => by
    refine ⟨h.1, fun i hi => ?_⟩
    exact wpOpIn_of_wp hd hQ (fun a' w' h' => wpAnyIn_of_any hd hQ fuel _ a' w' h') (h.2 i hi)
theorem wpIn_region_tree {id l : Nat} {a : Act} {w : World} (t : OTree) (S : World → Prop) (hm : P.follows .mixedOrders = true) (hd : noDefer ops = true) (hL : ¬ LetsOut Q)
    (hs : Region.noSelect ops = true) (hf : Nat.ble t.depth ops.size = true) (hok : okTree .any ops t (Array.replicate ops.size false) = true)
    (hQ : ∀ c (a : Act) (d : Tmp) (v : Value) (w : World), Q (.panic c) (a.put (some d) v) w → Q (.panic c) a w)
    (hS : S w.drew) (h : S w.drew → wpTree P ops Q S t a w.drew) : (Code.region id ops true).wpIn (Fence.wide.inRound l) n P Q a w :=
  wpIn_region_any hm (wpAnyIn_of_any hd hL _ _ _ _ (wpAny_of_held _ _ _ _ (wpAnyH_of_tree hs hQ t _ _ _ _ (Nat.le_of_ble_eq_true hf) hok (h hS))))
end
end Go.Bp
end
section
set_option maxRecDepth 100000
set_option linter.unusedSimpArgs false
set_option linter.unusedVariables false
namespace Go.Bp
open Go.RowKit Go.Proofs
theorem ti4 : (Tryz.prog.info? 4).map (fun i => (i.zero, i.size, i.bytes)) = some (some (.bool false), 1, 1) := by kernel_rfl
theorem size4 : (Tryz.prog.info? 4).map TypeInfo.size = some 1 := by kernel_rfl
theorem any_snoc {α : Type} (p : α → Bool) (l : List α) (x : α) : (l ++ [x]).any p = (l.any p || p x) := by simp
theorem all_snoc {α : Type} (p : α → Bool) (l : List α) (x : α) : (l ++ [x]).all p = (l.all p && p x) := by simp
set_option maxHeartbeats 4000000 in
theorem POutcome_any (cv sv : Value) (c : Code) (s : Sheet) (w : World) (h : CodeV w cv c) (hsv : SheetV w sv s) :
    Calls Tryz.prog 30 #[cv, sv] w (RetII w (outcomeAns c s).1 (outcomeAns c s).2) := by
  obtain ⟨fv, mv, rfl, hF, hM, hW⟩ := h
  obtain ⟨kv, rfl, hK⟩ := hsv
  have hE := Ext.refl w
  have HW := Lib.hid hW
  clear hW
  by_cases ha : fittingErr c s = 0
  · obtain ⟨ho, hs, hne⟩ := fittingErr_zero ha
    have Ho := Lib.hid ho; have Hs := Lib.hid hs; have Hne := Lib.hid hne
    have q1 : (fittingErr c s != 0) = false := by simp [ha]
    have Hr := Lib.hid (show outcomeAns c s = (outcomeOf c s, 0) by unfold outcomeAns; rw [if_neg (by simp [ha])])
    have Ha := Lib.hid ha
    clear ha ho hs hne
    have hFw := hF; have hMw := hM
    rw [Hr.out]
    refine calls_marks Tryz.func30 rfl ?_
    simp only [Tryz.ntmps30, List.size_toArray, List.length_cons, List.length_nil, Nat.reduceAdd, Nat.reduceSub, Array.replicate_succ, Array.replicate_zero, List.push_toArray, List.append_toArray, List.nil_append, List.cons_append]
    go_wp2_with (first | ((go_at_call 76; ((with_reducible refine (pfitting_any _ _ _ c s _ (by exact hF) (by exact hM) HW.out (by exact SheetV.of hK)).mono ?_)); rintro e W72 ⟨v72, rfl, hE72, hN72, hT72⟩; replace hE := hE.trans hE72; obtain ⟨gv, gm, lv, hT⟩ := hT72 Ha.out; have hTe := hT.eq; subst hTe; clear hT72 hN72)) | (((with_reducible refine q_newvar (e := 101) (u := 6) (v := .pointer (some ⟨gv, 0, none⟩)) ti101 ?_ ?_ ?_ ?_ ?_ ?_); (intro g; rfl); (intro g; rfl); rfl; rfl; (simp [Value.cells, Value.oneCell']); intro W6 g6 hE6 hB6 hg6; simp [Value.cells] at hB6; replace hT := hT.ext hE6; replace hE := hE.trans hE6; have c6 := cell_blk hB6)) | (((with_reducible refine q_alloc (d := some 8) ti4 ?_); intro W8 g8 hE8 hB8 hg8; have h80 := Nat.le_trans hE.size hg8; have hB80 : Blk W8 g8 4 #[.bool false] := hB8; replace hT := hT.ext hE8; replace hB6 := hB6.ext hE8; replace c6 := Ext.cell_some hE8 c6; replace hE := hE.trans hE8; have h01 : 0 < (#[Value.bool false] : Array Value).size := (by simp))) | (((with_reducible refine q_alloc (d := some 9) ti4 ?_); intro W9 g9 hE9 hB9 hg9; have h90 := Nat.le_trans hE.size hg9; have hB90 : Blk W9 g9 4 #[.bool false] := hB9; have n89 : g8 ≠ g9 := (by have := hB80.lt; omega); replace hB80 := hB80.ext hE9; replace hT := hT.ext hE9; replace hB6 := hB6.ext hE9; replace c6 := Ext.cell_some hE9 c6; replace hE := hE.trans hE9; have nT1 : gv ∉ [g8, g9] := (by simp; exact ⟨blk_ne hT.blk hB80 (by decide), blk_ne hT.blk hB90 (by decide)⟩); have nT2 : gm ∉ [g8, g9] := (by simp; exact ⟨hT.map.notblk hB80, hT.map.notblk hB90⟩); have nT3 : ∀ g ∈ [g8, g9], lv.ownBlock ≠ some g := (by intro g hg; simp at hg; rcases hg with rfl | rfl; exact own_ne hT.lost hB80 (.inl (by decide)); exact own_ne hT.lost hB90 (.inl (by decide))); have n6 : g6 ∉ [g8, g9] := (by simp; exact ⟨blk_ne hB6 hB80 (by decide), blk_ne hB6 hB90 (by decide)⟩); have nr0 := Near.refl [g8, g9] W9)) | (((with_reducible refine q_store1 (t := 4) (g := g8) (off := 0) (v := .bool false) ?_ ?_ hB80 size4 ?_ h01 ?_ ?_); rfl; rfl; rfl; rfl; intro Ws hBs hgrs; simp at hBs; have nr1 := nr0.grown hgrs (fun g e => (by cases e; simp)); have hB91 := hB90.grown hgrs (fun e => n89 (Option.some.inj e).symm))) | (((with_reducible refine q_store1 (t := 4) (g := g9) (off := 0) (v := .bool true) ?_ ?_ hB91 size4 ?_ h01 ?_ ?_); rfl; rfl; rfl; rfl; intro Wt hBt hgrt; simp at hBt; have nr2 := nr1.grown hgrt (fun g e => (by cases e; simp)); have hB82 := hBs.grown hgrt (fun e => n89 (Option.some.inj e)); have hTt := hT.near nr2 nT1 nT2 nT3; have hB6t := nr2.blk hB6 n6; have c6t := cell_blk hB6t; have hEt := nr2.ext hE (by intro g hg; simp at hg; rcases hg with rfl | rfl <;> assumption); clear nr1 nr2 hgrs hgrt)) | ((go_at_call 73; refine (ptests_any gv _).mono ?_; rintro e W73 ⟨gb, rfl, hE73, hgb, hBb⟩; have hB63 := hB6t.ext hE73; have hB83 := hB82.ext hE73; have hB93 := hBt.ext hE73; replace hTt := hTt.ext hE73; have hE3 := hEt.trans hE73)) | ((with_reducible refine q_box (d := some 2) ?_); intro W2 g2 hE2 hB2 hg2; simp [Act.eval, Act.put, Value.cells] at hB2; (try replace hE := hE.trans hE2); (try replace hF := hF.ext hE2); (try replace hM := hM.ext hE2); (try replace hK := hK.ext hE2); (try replace hB2 := hB2.ext hE2); (try replace hB3 := hB3.ext hE2); (try replace hb2_0 := Ext.cell_some hE2 hb2_0); (try replace hb2_1 := Ext.cell_some hE2 hb2_1); (try replace hb2_2 := Ext.cell_some hE2 hb2_2); (try replace hb3_0 := Ext.cell_some hE2 hb3_0); (try replace hb3_1 := Ext.cell_some hE2 hb3_1); have hb2_0 := hB2.cell 0; have hb2_1 := hB2.cell 1; have hb2_2 := hB2.cell 2; simp at hb2_0 hb2_1 hb2_2; clear hE2) | ((with_reducible refine q_box (d := some 3) ?_); intro W3 g3 hE3 hB3 hg3; simp [Act.eval, Act.put, Value.cells] at hB3; (try replace hE := hE.trans hE3); (try replace hF := hF.ext hE3); (try replace hM := hM.ext hE3); (try replace hK := hK.ext hE3); (try replace hB2 := hB2.ext hE3); (try replace hB3 := hB3.ext hE3); (try replace hb2_0 := Ext.cell_some hE3 hb2_0); (try replace hb2_1 := Ext.cell_some hE3 hb2_1); (try replace hb2_2 := Ext.cell_some hE3 hb2_2); (try replace hb3_0 := Ext.cell_some hE3 hb3_0); (try replace hb3_1 := Ext.cell_some hE3 hb3_1); have hb3_0 := hB3.cell 0; have hb3_1 := hB3.cell 1; simp at hb3_0 hb3_1; clear hE3))
    have nT1' : gv ∉ [g8, g9] := nT1
    have l8 := hB83.lt; have l9 := hB93.lt
    have HWx := HW
    refine wp_rangeTestsA (gb := gb) (gv := gv) (gm := gm) (fv := fv) (mv := mv) (lv := lv) (c := c) (s := s) (w0 := w) rfl Ho.out Hs.out hE3 hFw hMw hBb hTt.blk hTt.map [g8, g9] ?hgs ?n1 nT1 nT2 (fun xs W => Blk W g8 4 #[.bool (xs.any c.passed)] ∧ Blk W g9 4 #[.bool (xs.all c.passed)]) (fun _ _ _ => False) ?hR ?hRx ⟨hB83, hB93⟩ ?body ?done ?stop
    case hgs => intro g hg; simp at hg; rcases hg with rfl | rfl <;> assumption
    case n1 => simp; exact ⟨blk_ne hBb hB83 (by decide), blk_ne hBb hB93 (by decide)⟩
    case hR => rintro xs A B ⟨h1, h2⟩ hAB; exact ⟨(hAB.block _ l8).trans h1, (hAB.block _ l9).trans h2⟩
    case hRx => exact fun _ _ _ _ _ h => h.elim
    case body =>
      rintro l pre v t W hn ⟨h8, h9⟩ hv ht hl hN hsz hx hD
      have c6b := cell_blk (hn.blk hB63 n6)
      obtain ⟨_, dt, _, dF, dM⟩ := hD
      have Ht := Lib.hid ht
      obtain ⟨vs, hvs⟩ : ∃ b, pre.any c.passed = b := ⟨_, rfl⟩
      obtain ⟨va, hva⟩ : ∃ b, pre.all c.passed = b := ⟨_, rfl⟩
      obtain ⟨vp, hvp⟩ : ∃ b, c.passed t = b := ⟨_, rfl⟩
      rw [hvs] at h8; rw [hva] at h9
      have hpost : ∀ W', Up W73.heap.size W W' → Near [g8, g9] W73 W' → Blk W' g8 4 #[.bool (vs || vp)] → Blk W' g9 4 #[.bool (va && vp)] → Up W73.heap.size W W' ∧ Near [g8, g9] W73 W' ∧ Blk W' g8 4 #[.bool ((pre ++ [t]).any c.passed)] ∧ Blk W' g9 4 #[.bool ((pre ++ [t]).all c.passed)] := by
        intro W' h1 h2 h3 h4
        rw [any_snoc, all_snoc, hvs, hva, hvp]; exact ⟨h1, h2, h3, h4⟩
      have Hpost := Lib.hid hpost
      have HvP := Lib.hid hvp
      clear ht hpost hvs hva hvp
      simp only [List.setIfInBounds_toArray, List.set_cons_zero, List.set_cons_succ]
      gi_wp2_with (rw [Oper.semAt_eq _ _ _ (fun c h => by cases h)]; go_simp; try go_bits)
      refine ⟨trivial, rfl, CallsIn.inRound l (callsIn_wide.2 ((ptpass_any gv gm fv mv lv v c s.lines t _ dt dF dM HW.out Ho.out Ht.out hv.ints).mono ?_))⟩
      rintro e W77 ⟨rfl, hE77⟩
      have h8' := h8.ext hE77; have h9' := h9.ext hE77
      have c8 := cell_blk h8'; have c9 := cell_blk h9'
      have f8 : W77.frozen? ⟨g8, 0, none⟩ = false := h8'.frozen 0
      have f9 : ∀ u, (W77.setCell ⟨g8, 0, none⟩ u).frozen? ⟨g9, 0, none⟩ = false := fun u => frozen_set h9' n89.symm
      have c9' : ∀ u, (W77.setCell ⟨g8, 0, none⟩ u).cell? ⟨g9, 0, none⟩ = some (.bool va) := fun u => cell_blk (h9'.far n89.symm u)
      have hn77 : Near [g8, g9] W73 W77 := hn.below (hE77.mono (by omega))
      have hend : ∀ a b : Bool, Up W73.heap.size W ((W77.setCell ⟨g8, 0, none⟩ (.bool a)).setCell ⟨g9, 0, none⟩ (.bool b)) ∧ Near [g8, g9] W73 ((W77.setCell ⟨g8, 0, none⟩ (.bool a)).setCell ⟨g9, 0, none⟩ (.bool b)) ∧ Blk ((W77.setCell ⟨g8, 0, none⟩ (.bool a)).setCell ⟨g9, 0, none⟩ (.bool b)) g8 4 #[.bool a] ∧ Blk ((W77.setCell ⟨g8, 0, none⟩ (.bool a)).setCell ⟨g9, 0, none⟩ (.bool b)) g9 4 #[.bool b] := by
        intro a b
        have hgr1 := grownBy_setCell' W77 g8 (.bool a)
        have hgr2 := grownBy_setCell' (W77.setCell ⟨g8, 0, none⟩ (.bool a)) g9 (.bool b)
        have b8 := h8'.set_ 0 (.bool a)
        have b9 := (h9'.far (p := ⟨g8, 0, none⟩) n89.symm (.bool a)).set_ 0 (.bool b)
        simp at b8 b9
        exact ⟨((Up.ofExt hE77).trans (Up.grown hgr1 (fun g e => by cases e; exact l8))).trans (Up.grown hgr2 (fun g e => by cases e; exact l9)), (hn77.grown hgr1 (fun g e => by cases e; simp)).grown hgr2 (fun g e => by cases e; simp), b8.far n89 _, b9⟩
      have Hend := Lib.hid hend
      clear hend h8 h9
      rw [HvP.out]
      cases vs <;> cases va <;> cases vp
      all_goals
        gi_wp2_with (rw [Oper.semAt_eq _ _ _ (fun c h => by cases h)]; go_simp; try go_bits)
        obtain ⟨e1, e2, e3, e4⟩ := Hend.out _ _
        exact Hpost.out _ e1 e2 e3 e4
    case done =>
      rintro D W hD hn ⟨h8, h9⟩ hx hK
      have hxD := below_put hx (show w.heap.size ≤ D by have := hE3.size; omega) (.deferred none)
      have HxD := Lib.hid hxD; have HK := Lib.hid hK
      clear hx hxD hK
      obtain ⟨vs, hvs⟩ : ∃ b, (tests c s).any c.passed = b := ⟨_, rfl⟩
      obtain ⟨va, hva⟩ : ∃ b, (tests c s).all c.passed = b := ⟨_, rfl⟩
      have Ho2 := Lib.hid (show outcomeOf c s = if va = true then 1 else if vs = true then 2 else 0 by unfold outcomeOf; rw [hva, hvs])
      rw [hvs] at h8; rw [hva] at h9
      have c8 := cell_blk h8; have c9 := cell_blk h9
      clear hvs hva h8 h9
      cases va <;> cases vs
      all_goals
        go_wp2
        refine postM_mark rfl HK.out ?_
        go_ret2
        rw [Ho2.out]
        exact ⟨rfl, HxD.out⟩
    case stop => intro D e pre W _ _ _ h; exact h.elim
  · have q1 : (fittingErr c s != 0) = true := by simp [ha]
    have Hr := Lib.hid (show outcomeAns c s = (0, fittingErr c s) by unfold outcomeAns; rw [if_pos ha])
    have Ha := Lib.hid ha
    clear ha
    rw [Hr.out]
    refine calls_marks Tryz.func30 rfl ?_
    simp only [Tryz.ntmps30, List.size_toArray, List.length_cons, List.length_nil, Nat.reduceAdd, Nat.reduceSub, Array.replicate_succ, Array.replicate_zero, List.push_toArray, List.append_toArray, List.nil_append, List.cons_append]
    go_wp2_with (first | ((go_at_call 76; ((with_reducible refine (pfitting_any _ _ _ c s _ (by exact hF) (by exact hM) HW.out (by exact SheetV.of hK)).mono ?_)); rintro e W72 ⟨v72, rfl, hE72, hN72, hT72⟩; replace hE := hE.trans hE72; have hv72 := hN72 Ha.out; subst hv72)) | (((with_reducible refine q_newvar (e := 101) (u := 6) (v := .pointer none) ti101 ?_ ?_ ?_ ?_ ?_ ?_); (intro g; rfl); (intro g; rfl); rfl; rfl; (simp [Value.cells, Value.oneCell']); intro W6 g6 hE6 hB6 hg6; replace hE := hE.trans hE6)) | ((with_reducible refine q_box (d := some 2) ?_); intro W2 g2 hE2 hB2 hg2; simp [Act.eval, Act.put, Value.cells] at hB2; (try replace hE := hE.trans hE2); (try replace hF := hF.ext hE2); (try replace hM := hM.ext hE2); (try replace hK := hK.ext hE2); (try replace hB2 := hB2.ext hE2); (try replace hB3 := hB3.ext hE2); (try replace hb2_0 := Ext.cell_some hE2 hb2_0); (try replace hb2_1 := Ext.cell_some hE2 hb2_1); (try replace hb2_2 := Ext.cell_some hE2 hb2_2); (try replace hb3_0 := Ext.cell_some hE2 hb3_0); (try replace hb3_1 := Ext.cell_some hE2 hb3_1); have hb2_0 := hB2.cell 0; have hb2_1 := hB2.cell 1; have hb2_2 := hB2.cell 2; simp at hb2_0 hb2_1 hb2_2; clear hE2) | ((with_reducible refine q_box (d := some 3) ?_); intro W3 g3 hE3 hB3 hg3; simp [Act.eval, Act.put, Value.cells] at hB3; (try replace hE := hE.trans hE3); (try replace hF := hF.ext hE3); (try replace hM := hM.ext hE3); (try replace hK := hK.ext hE3); (try replace hB2 := hB2.ext hE3); (try replace hB3 := hB3.ext hE3); (try replace hb2_0 := Ext.cell_some hE3 hb2_0); (try replace hb2_1 := Ext.cell_some hE3 hb2_1); (try replace hb2_2 := Ext.cell_some hE3 hb2_2); (try replace hb3_0 := Ext.cell_some hE3 hb3_0); (try replace hb3_1 := Ext.cell_some hE3 hb3_1); have hb3_0 := hB3.cell 0; have hb3_1 := hB3.cell 1; simp at hb3_0 hb3_1; clear hE3))
    refine postM_none ?_
    go_ret2
    exact ⟨rfl, hE⟩
end Go.Bp
end
section
set_option maxRecDepth 100000
set_option linter.unusedSimpArgs false
set_option linter.unusedVariables false
namespace Go.Bp
open Go.RowKit Go.Proofs
theorem show_pre {c : Code} {s : Sheet} {b : Bool} {pre r : List (List Int)} {t : List Int} (h : fittingErr c s = 0) (ht : tests c s = pre ++ t :: r) (hp : c.passed t = b) (hb : ∀ x ∈ pre, c.passed x ≠ b) : showAns c s b = (t, 0) := by
  unfold showAns showOf
  have h1 : pre.find? (fun t => c.passed t == b) = none := by
    rw [List.find?_eq_none]; intro x hx; simp [hb x hx]
  have h2 : (t :: r).find? (fun t => c.passed t == b) = some t := by rw [List.find?_cons]; simp [hp]
  rw [if_neg (by simp [h]), ht, List.find?_append, h1, h2]; rfl
theorem ld_26 {w : World} {p : Addr} {A : Option Addr} {n c : Nat} (h : w.cell? p = some (.slice A n c)) : (loadVar 26 p).run Tryz.prog w = .ok (.slice A n c) w := load_one Tryz.underlying26 rfl h
set_option maxHeartbeats 4000000 in
theorem PShow_any (cv sv : Value) (c : Code) (s : Sheet) (b : Bool) (w : World) (h : CodeV w cv c) (hsv : SheetV w sv s) :
    Calls Tryz.prog 32 #[cv, sv, .bool b] w (RetOI w (showAns c s b).1 (showAns c s b).2) := by
  obtain ⟨fv, mv, rfl, hF, hM, hW⟩ := h
  obtain ⟨kv, rfl, hK⟩ := hsv
  have hE := Ext.refl w
  have HW := Lib.hid hW
  clear hW
  by_cases ha : fittingErr c s = 0
  · obtain ⟨ho, hs, hne⟩ := fittingErr_zero ha
    have Ho := Lib.hid ho; have Hs := Lib.hid hs; have Hne := Lib.hid hne
    have q1 : (fittingErr c s != 0) = false := by simp [ha]
    have Ha := Lib.hid ha
    clear ha ho hs hne
    have hFw := hF; have hMw := hM
    refine calls_marks Tryz.func32 rfl ?_
    simp only [Tryz.ntmps32, List.size_toArray, List.length_cons, List.length_nil, Nat.reduceAdd, Nat.reduceSub, Array.replicate_succ, Array.replicate_zero, List.push_toArray, List.append_toArray, List.nil_append, List.cons_append]
    go_wp2_with (first | (((with_reducible refine q_alloc (d := some 6) ti26 ?_); intro W6 g6 hE6 hB6 hg6; have h60 := Nat.le_trans hE.size hg6; have hB60 : Blk W6 g6 26 #[.slice none 0 0] := hB6; replace hE := hE.trans hE6; replace hF := hF.ext hE6; replace hM := hM.ext hE6; replace hK := hK.ext hE6; replace hB5 := hB5.ext hE6; replace hb3_0 := Ext.cell_some hE6 hb3_0; replace hb3_1 := Ext.cell_some hE6 hb3_1; replace hb3_2 := Ext.cell_some hE6 hb3_2; replace hb4_0 := Ext.cell_some hE6 hb4_0; replace hb4_1 := Ext.cell_some hE6 hb4_1)) | (((with_reducible refine q_alloc (d := some 7) ti27 ?_); intro W7 g7 hE7 hB7 hg7; have h70 := Nat.le_trans hE.size hg7; have hB70 : Blk W7 g7 27 #[.int .i64 0] := hB7; replace hE := hE.trans hE7; replace hF := hF.ext hE7; replace hM := hM.ext hE7; replace hK := hK.ext hE7; replace hB5 := hB5.ext hE7; replace hB60 := hB60.ext hE7; replace hb3_0 := Ext.cell_some hE7 hb3_0; replace hb3_1 := Ext.cell_some hE7 hb3_1; replace hb3_2 := Ext.cell_some hE7 hb3_2; replace hb4_0 := Ext.cell_some hE7 hb4_0; replace hb4_1 := Ext.cell_some hE7 hb4_1)) | ((go_at_call 76; ((with_reducible refine (pfitting_any _ _ _ c s _ (by exact hF) (by exact hM) HW.out (by exact SheetV.of hK)).mono ?_)); rintro e W72 ⟨v72, rfl, hE72, hN72, hT72⟩; replace hE := hE.trans hE72; replace hB60 := hB60.ext hE72; replace hB70 := hB70.ext hE72; replace hB5 := hB5.ext hE72; obtain ⟨gv, gm, lv, hT⟩ := hT72 Ha.out; have hTe := hT.eq; subst hTe; clear hT72 hN72)) | (((with_reducible refine q_newvar (e := 101) (u := 8) (v := .pointer (some ⟨gv, 0, none⟩)) ti101 ?_ ?_ ?_ ?_ ?_ ?_); (intro g; rfl); (intro g; rfl); rfl; rfl; (simp [Value.cells, Value.oneCell']); intro W8 g8 hE8 hB8 hg8; simp [Value.cells] at hB8; replace hT := hT.ext hE8; replace hB60 := hB60.ext hE8; replace hB70 := hB70.ext hE8; replace hB5 := hB5.ext hE8; replace hE := hE.trans hE8; have c8 := cell_blk hB8)) | ((go_at_call 73; refine (ptests_any gv _).mono ?_; rintro e W73 ⟨gb, rfl, hE73, hgb, hBb⟩; replace hB60 := hB60.ext hE73; replace hB70 := hB70.ext hE73; replace hB5 := hB5.ext hE73; replace hB8 := hB8.ext hE73; replace hT := hT.ext hE73; replace hE := hE.trans hE73)) | ((with_reducible refine q_box (d := some 3) ?_); intro W3 g3 hE3 hB3 hg3; simp [Act.eval, Act.put, Value.cells] at hB3; (try replace hE := hE.trans hE3); (try replace hF := hF.ext hE3); (try replace hM := hM.ext hE3); (try replace hK := hK.ext hE3); (try replace hB3 := hB3.ext hE3); (try replace hB4 := hB4.ext hE3); (try replace hB5 := hB5.ext hE3); (try replace hb3_0 := Ext.cell_some hE3 hb3_0); (try replace hb3_1 := Ext.cell_some hE3 hb3_1); (try replace hb3_2 := Ext.cell_some hE3 hb3_2); (try replace hb4_0 := Ext.cell_some hE3 hb4_0); (try replace hb4_1 := Ext.cell_some hE3 hb4_1); (try replace hb5_0 := Ext.cell_some hE3 hb5_0); have hb3_0 := hB3.cell 0; have hb3_1 := hB3.cell 1; have hb3_2 := hB3.cell 2; simp at hb3_0 hb3_1 hb3_2; clear hE3) | ((with_reducible refine q_box (d := some 4) ?_); intro W4 g4 hE4 hB4 hg4; simp [Act.eval, Act.put, Value.cells] at hB4; (try replace hE := hE.trans hE4); (try replace hF := hF.ext hE4); (try replace hM := hM.ext hE4); (try replace hK := hK.ext hE4); (try replace hB3 := hB3.ext hE4); (try replace hB4 := hB4.ext hE4); (try replace hB5 := hB5.ext hE4); (try replace hb3_0 := Ext.cell_some hE4 hb3_0); (try replace hb3_1 := Ext.cell_some hE4 hb3_1); (try replace hb3_2 := Ext.cell_some hE4 hb3_2); (try replace hb4_0 := Ext.cell_some hE4 hb4_0); (try replace hb4_1 := Ext.cell_some hE4 hb4_1); (try replace hb5_0 := Ext.cell_some hE4 hb5_0); have hb4_0 := hB4.cell 0; have hb4_1 := hB4.cell 1; simp at hb4_0 hb4_1; clear hE4) | ((with_reducible refine q_box (d := some 5) ?_); intro W5 g5 hE5 hB5 hg5; simp [Act.eval, Act.put, Value.cells] at hB5; (try replace hE := hE.trans hE5); (try replace hF := hF.ext hE5); (try replace hM := hM.ext hE5); (try replace hK := hK.ext hE5); (try replace hB3 := hB3.ext hE5); (try replace hB4 := hB4.ext hE5); (try replace hB5 := hB5.ext hE5); (try replace hb3_0 := Ext.cell_some hE5 hb3_0); (try replace hb3_1 := Ext.cell_some hE5 hb3_1); (try replace hb3_2 := Ext.cell_some hE5 hb3_2); (try replace hb4_0 := Ext.cell_some hE5 hb4_0); (try replace hb4_1 := Ext.cell_some hE5 hb4_1); (try replace hb5_0 := Ext.cell_some hE5 hb5_0); have hb5_0 := hB5.cell 0; simp at hb5_0; clear hE5))
    have n67 : g6 ≠ g7 := blk_ne hB60 hB70 (by decide)
    have l6 := hB60.lt; have l7 := hB70.lt
    have nT1 : gv ∉ [g6, g7] := (by simp; exact ⟨blk_ne hT.blk hB60 (by decide), blk_ne hT.blk hB70 (by decide)⟩)
    have nT2 : gm ∉ [g6, g7] := (by simp; exact ⟨hT.map.notblk hB60, hT.map.notblk hB70⟩)
    have n8 : g8 ∉ [g6, g7] := (by simp; exact ⟨blk_ne hB8 hB60 (by decide), blk_ne hB8 hB70 (by decide)⟩)
    have n5 : g5 ∉ [g6, g7] := (by simp; exact ⟨blk_ne hB5 hB60 (by decide), blk_ne hB5 hB70 (by decide)⟩)
    refine wp_rangeTestsA (gb := gb) (gv := gv) (gm := gm) (fv := fv) (mv := mv) (lv := lv) (c := c) (s := s) (w0 := w) rfl Ho.out Hs.out hE hFw hMw hBb hT.blk hT.map [g6, g7] ?hgs ?n1 nT1 nT2 (fun xs W => (∀ x ∈ xs, c.passed x ≠ b) ∧ Blk W g6 26 #[.slice none 0 0] ∧ Blk W g7 27 #[.int .i64 0]) (fun e xs W => e = .ret ∧ ∃ pre t v, xs = pre ++ [t] ∧ (∀ x ∈ pre, c.passed x ≠ b) ∧ c.passed t = b ∧ Blk W g6 26 #[v] ∧ Blk W g7 27 #[.int .i64 0] ∧ IntB W v t) ?hR ?hRx ⟨by simp, hB60, hB70⟩ ?body ?done ?stop
    case hgs => intro g hg; simp at hg; rcases hg with rfl | rfl <;> assumption
    case n1 => simp; exact ⟨blk_ne hBb hB60 (by decide), blk_ne hBb hB70 (by decide)⟩
    case hR => rintro xs A B ⟨h0, h1, h2⟩ hAB; exact ⟨h0, (hAB.block _ l6).trans h1, (hAB.block _ l7).trans h2⟩
    case hRx => rintro e xs A B row ⟨h0, pre, t, v, h1, h2, h3, h4, h5, h6⟩ hg hr; exact ⟨h0, pre, t, v, h1, h2, h3, h4.ofOwn hg hr, h5.ofOwn hg hr, h6.ofOwn hg hr⟩
    case body =>
      rintro l pre v t W hn ⟨h0, h6, h7⟩ hv ht hl hN hsz hx hD
      have c8b := cell_blk (hn.blk hB8 n8)
      have c5b := cell_blk (hn.blk hB5 n5)
      obtain ⟨_, dt, _, dF, dM⟩ := hD
      have Ht := Lib.hid ht; have H0 := Lib.hid h0
      obtain ⟨vp, hvp⟩ : ∃ x, c.passed t = x := ⟨_, rfl⟩
      have HvP := Lib.hid hvp
      clear ht h0 hvp
      obtain ⟨Av, cv', hve, _, _, _, _⟩ := hv.ints
      subst hve
      simp only [Act.put, Act.eval, Array.getD_eq_getD_getElem?, List.setIfInBounds_toArray, List.set_cons_zero, List.set_cons_succ, List.getElem?_toArray, List.getElem?_cons_succ, List.getElem?_cons_zero, Option.getD_some]
      gi_wp2_with (rw [Oper.semAt_eq _ _ _ (fun c h => by cases h)]; go_simp; try go_bits)
      refine wpIn_region_tree (.take 0 (.take 1 (.take 3 (.one 2 (.take 4 .nil))))) (fun w' => w'.cell? ⟨g8, 0, none⟩ = some (.pointer (some ⟨gv, 0, none⟩)) ∧ w'.cell? ⟨g5, 0, none⟩ = some (.bool b)) (by kernel_rfl) (by kernel_rfl) (by rintro ⟨_, _, h⟩; exact h) (by kernel_rfl) (by kernel_rfl) (by kernel_rfl) (fun _ _ _ _ _ h => h) ?_ (fun hHeld => ?_)
      · (first | exact True.intro | ((try dsimp only); (repeat' apply And.intro) <;> first | assumption | (refine Ext.cell_some (Ext.todrew (Ext.refl _)) ?_; assumption)))
      refine t_take (i := 0) (v := ?_) (by (simp only [List.getElem?_toArray, List.getElem?_cons_succ, List.getElem?_cons_zero]); rfl) (by rfl) ?_ (by exact hHeld) ?_
      rotate_left
      · (intro wq hSw; (try dsimp only at hSw); go_simp; (try with_reducible rfl))
      (try simp only [Act.put, List.setIfInBounds_toArray, List.set_cons_zero, List.set_cons_succ])
      refine t_take (i := 1) (v := ?_) (by (simp only [List.getElem?_toArray, List.getElem?_cons_succ, List.getElem?_cons_zero]); rfl) (by rfl) ?_ (by exact hHeld) ?_
      rotate_left
      · (intro wq hSw; (try dsimp only at hSw); go_simp; (try with_reducible rfl))
      (try simp only [Act.put, List.setIfInBounds_toArray, List.set_cons_zero, List.set_cons_succ])
      refine t_take (i := 3) (v := ?_) (by (simp only [List.getElem?_toArray, List.getElem?_cons_succ, List.getElem?_cons_zero]); rfl) (by rfl) ?_ (by exact hHeld) ?_
      rotate_left
      · (intro wq hSw; (try dsimp only at hSw); go_simp; (try with_reducible rfl))
      (try simp only [Act.put, List.setIfInBounds_toArray, List.set_cons_zero, List.set_cons_succ])
      refine t_one (i := 2) (by (simp only [List.getElem?_toArray, List.getElem?_cons_succ, List.getElem?_cons_zero]); rfl) ?_
      ((refine q_call (by rfl) (ptpass_any gv gm fv mv lv _ c s.lines t _ dt.d dF.d dM.d HW.out Ho.out Ht.out hv.ints.d) (by go_simp) ?_; rintro e W77 ⟨rfl, hE77⟩; refine ⟨_, rfl, ?_⟩; replace hE77 := hE77.undrew; have c8c := Ext.cell_some hE77 c8b; have c5c := Ext.cell_some hE77 c5b))
      clear hHeld; refine t_next ?_ (fun hHeld => ?_)
      · (first | exact True.intro | ((try dsimp only); (repeat' apply And.intro) <;> first | assumption | (refine Ext.cell_some (Ext.todrew (Ext.refl _)) ?_; assumption)))
      (try simp only [Act.put, List.setIfInBounds_toArray, List.set_cons_zero, List.set_cons_succ])
      refine t_take (i := 4) (v := ?_) (by (simp only [List.getElem?_toArray, List.getElem?_cons_succ, List.getElem?_cons_zero]); rfl) (by rfl) ?_ (by exact hHeld) ?_
      rotate_left
      · (intro wq hSw; (try dsimp only at hSw); go_simp; (try with_reducible rfl))
      (try simp only [Act.put, List.setIfInBounds_toArray, List.set_cons_zero, List.set_cons_succ])
      refine t_done ?_
      have h6' := h6.ext hE77; have h7' := h7.ext hE77
      have c6' := cell_blk h6'; have c7' := cell_blk h7'
      have f6 : W77.frozen? ⟨g6, 0, none⟩ = false := h6'.frozen 0
      have f7 : ∀ u, (W77.setCell ⟨g6, 0, none⟩ u).frozen? ⟨g7, 0, none⟩ = false := fun u => frozen_set h7' n67.symm
      have c7'' : ∀ u, (W77.setCell ⟨g6, 0, none⟩ u).cell? ⟨g7, 0, none⟩ = some (.int .i64 0) := fun u => cell_blk (h7'.far n67.symm u)
      have hn77 : Near [g6, g7] W73 W77 := hn.below (hE77.mono (by omega))
      have hv77 := hv.ext hE77
      rw [HvP.out]
      gi_wp2_with (rw [Oper.semAt_eq _ _ _ (fun c h => by cases h)]; go_simp; try go_bits)
      · have hpb : vp = b := by simpa using (by assumption : (vp == b) = true)
        have hgr1 := grownBy_setCell' W77 g6 (.slice Av t.length cv')
        have hgr2 := grownBy_setCell' (W77.setCell ⟨g6, 0, none⟩ (.slice Av t.length cv')) g7 (.int .i64 0)
        have b6 := h6'.set_ 0 (.slice Av t.length cv')
        have b7 := (h7'.far (p := ⟨g6, 0, none⟩) n67.symm (.slice Av t.length cv')).set_ 0 (.int .i64 0)
        simp at b6 b7
        have hn2 := (hn77.grown hgr1 (fun g e => by cases e; simp)).grown hgr2 (fun g e => by cases e; simp)
        refine ⟨((Up.ofExt hE77).trans (Up.grown hgr1 (fun g e => by cases e; exact l6))).trans (Up.grown hgr2 (fun g e => by cases e; exact l7)), hn2, rfl, pre, t, _, rfl, H0.out, by rw [HvP.out]; exact hpb, b6.far n67 _, b7, ?_⟩
        exact (hv77.grown hgr1 (fun g e => by cases e; exact ⟨_, _, _, h6', by decide⟩)).grown hgr2 (fun g e => by cases e; exact ⟨_, _, _, h7'.far (p := ⟨g6, 0, none⟩) n67.symm (.slice Av t.length cv'), by decide⟩)
      · have hpb : ¬ vp = b := by simpa using (by assumption : (vp == b) = false)
        exact ⟨Up.ofExt hE77, hn77, by intro x hx; rcases List.mem_append.1 hx with h | h; exact H0.out x h; simp at h; subst h; rw [HvP.out]; exact hpb, h6', h7'⟩
    case done =>
      rintro D W hD hn ⟨h0, h6, h7⟩ hx hK
      have Hr := Lib.hid (show_none Ha.out h0)
      have f6 : W.frozen? ⟨g6, 0, none⟩ = false := h6.frozen 0
      have f7 : (W.setCell ⟨g6, 0, none⟩ (.slice none 0 0)).frozen? ⟨g7, 0, none⟩ = false := frozen_set h7 n67.symm
      have c6 := cell_blk h6; have c7 := cell_blk h7
      have c7' : (W.setCell ⟨g6, 0, none⟩ (.slice none 0 0)).cell? ⟨g7, 0, none⟩ = some (.int .i64 0) := cell_blk (h7.far n67.symm _)
      have hgr1 := grownBy_setCell' W g6 (.slice none 0 0)
      have hgr2 := grownBy_setCell' (W.setCell ⟨g6, 0, none⟩ (.slice none 0 0)) g7 (.int .i64 4)
      have b6 := h6.set_ 0 (.slice none 0 0)
      have b7 := (h7.far (p := ⟨g6, 0, none⟩) n67.symm (.slice none 0 0)).set_ 0 (.int .i64 4)
      simp at b6 b7
      have b6' := b6.far (p := ⟨g7, 0, none⟩) n67 (.int .i64 4)
      have hx2 := below_grown (below_grown hx hgr1 h60 hx.size) hgr2 h70 (Nat.le_trans hx.size hgr1.size)
      have hDlt := (Array.getElem?_eq_some_iff.1 hK).1
      have hK2 := (hgr2.block D (Nat.lt_of_lt_of_le hDlt hgr1.size) (fun e => by injection e with e; omega)).trans ((hgr1.block D hDlt (fun e => by injection e with e; omega)).trans hK)
      clear hgr1 hgr2 h0
      go_wp2
      refine postM_mark rfl hK2 (ret_cc rfl rfl rfl rfl (ld_26 (cell_blk (show Blk _ g6 26 #[.slice none 0 0] from (World.putObj_heap_other (by omega)).trans b6'))) (ld_e (cell_blk (show Blk _ g7 27 #[.int .i64 4] from (World.putObj_heap_other (by omega)).trans b7))) ?_)
      rw [Hr.out]
      exact ⟨_, rfl, IntB.of_own (OwnI.nil 0 _), below_put hx2 (show w.heap.size ≤ D by have := hE.size; omega) _⟩
    case stop =>
      rintro D e pre0 W hD hp hn ⟨rfl, pre, t, v, h1, h2, h3, h6, h7, h8⟩ hx hK
      obtain ⟨r, hr⟩ := hp
      have Hr := Lib.hid (show_pre (r := r) Ha.out (by rw [← hr, h1]; simp) h3 h2)
      refine wp_ret ?_
      have h8i := h8.ints
      obtain ⟨Av, cv', hve, _, _, _, _⟩ := h8i
      subst hve
      refine postM_mark rfl hK (ret_cc rfl rfl rfl rfl (ld_26 (cell_blk (show Blk _ g6 26 #[_] from (World.putObj_heap_other (by omega)).trans h6))) (ld_e (cell_blk (show Blk _ g7 27 #[.int .i64 0] from (World.putObj_heap_other (by omega)).trans h7))) ?_)
      rw [Hr.out]
      exact ⟨_, rfl, h8.ofOwn (B := 0) (grownBy_putObj' W D _) (fun r e => by cases e; exact ⟨Nat.zero_le _, _, hK, rfl⟩), below_put hx (show w.heap.size ≤ D by have := hE.size; omega) _⟩
  · have q1 : (fittingErr c s != 0) = true := by simp [ha]
    have Hr := Lib.hid (show showAns c s b = ([], fittingErr c s) from show_e ha)
    have Ha := Lib.hid ha
    clear ha
    rw [Hr.out]
    refine calls_marks Tryz.func32 rfl ?_
    simp only [Tryz.ntmps32, List.size_toArray, List.length_cons, List.length_nil, Nat.reduceAdd, Nat.reduceSub, Array.replicate_succ, Array.replicate_zero, List.push_toArray, List.append_toArray, List.nil_append, List.cons_append]
    go_wp2_with (first | (((with_reducible refine q_alloc (d := some 6) ti26 ?_); intro W6 g6 hE6 hB6 hg6; have h60 := Nat.le_trans hE.size hg6; have hB60 : Blk W6 g6 26 #[.slice none 0 0] := hB6; replace hE := hE.trans hE6; replace hF := hF.ext hE6; replace hM := hM.ext hE6; replace hK := hK.ext hE6; replace hb3_0 := Ext.cell_some hE6 hb3_0; replace hb3_1 := Ext.cell_some hE6 hb3_1; replace hb3_2 := Ext.cell_some hE6 hb3_2; replace hb4_0 := Ext.cell_some hE6 hb4_0; replace hb4_1 := Ext.cell_some hE6 hb4_1)) | (((with_reducible refine q_alloc (d := some 7) ti27 ?_); intro W7 g7 hE7 hB7 hg7; have h70 := Nat.le_trans hE.size hg7; have hB70 : Blk W7 g7 27 #[.int .i64 0] := hB7; replace hE := hE.trans hE7; replace hF := hF.ext hE7; replace hM := hM.ext hE7; replace hK := hK.ext hE7; replace hB60 := hB60.ext hE7; replace hb3_0 := Ext.cell_some hE7 hb3_0; replace hb3_1 := Ext.cell_some hE7 hb3_1; replace hb3_2 := Ext.cell_some hE7 hb3_2; replace hb4_0 := Ext.cell_some hE7 hb4_0; replace hb4_1 := Ext.cell_some hE7 hb4_1)) | ((go_at_call 76; ((with_reducible refine (pfitting_any _ _ _ c s _ (by exact hF) (by exact hM) HW.out (by exact SheetV.of hK)).mono ?_)); rintro e W72 ⟨v72, rfl, hE72, hN72, hT72⟩; replace hE := hE.trans hE72; replace hB60 := hB60.ext hE72; replace hB70 := hB70.ext hE72; have hv72 := hN72 Ha.out; subst hv72)) | (((with_reducible refine q_newvar (e := 101) (u := 8) (v := .pointer none) ti101 ?_ ?_ ?_ ?_ ?_ ?_); (intro g; rfl); (intro g; rfl); rfl; rfl; (simp [Value.cells, Value.oneCell']); intro W8 g8 hE8 hB8 hg8; replace hB60 := hB60.ext hE8; replace hB70 := hB70.ext hE8; replace hE := hE.trans hE8; have n67 : g6 ≠ g7 := blk_ne hB60 hB70 (by decide); have f6 : W8.frozen? ⟨g6, 0, none⟩ = false := hB60.frozen 0; have c6 := cell_blk hB60; have c7 := cell_blk hB70; have f7 : (W8.setCell ⟨g6, 0, none⟩ (.slice none 0 0)).frozen? ⟨g7, 0, none⟩ = false := frozen_set hB70 n67.symm; have c7' : (W8.setCell ⟨g6, 0, none⟩ (.slice none 0 0)).cell? ⟨g7, 0, none⟩ = some (.int .i64 0) := cell_blk (hB70.far n67.symm _))) | ((with_reducible refine q_box (d := some 3) ?_); intro W3 g3 hE3 hB3 hg3; simp [Act.eval, Act.put, Value.cells] at hB3; (try replace hE := hE.trans hE3); (try replace hF := hF.ext hE3); (try replace hM := hM.ext hE3); (try replace hK := hK.ext hE3); (try replace hB3 := hB3.ext hE3); (try replace hB4 := hB4.ext hE3); (try replace hB5 := hB5.ext hE3); (try replace hb3_0 := Ext.cell_some hE3 hb3_0); (try replace hb3_1 := Ext.cell_some hE3 hb3_1); (try replace hb3_2 := Ext.cell_some hE3 hb3_2); (try replace hb4_0 := Ext.cell_some hE3 hb4_0); (try replace hb4_1 := Ext.cell_some hE3 hb4_1); (try replace hb5_0 := Ext.cell_some hE3 hb5_0); have hb3_0 := hB3.cell 0; have hb3_1 := hB3.cell 1; have hb3_2 := hB3.cell 2; simp at hb3_0 hb3_1 hb3_2; clear hE3) | ((with_reducible refine q_box (d := some 4) ?_); intro W4 g4 hE4 hB4 hg4; simp [Act.eval, Act.put, Value.cells] at hB4; (try replace hE := hE.trans hE4); (try replace hF := hF.ext hE4); (try replace hM := hM.ext hE4); (try replace hK := hK.ext hE4); (try replace hB3 := hB3.ext hE4); (try replace hB4 := hB4.ext hE4); (try replace hB5 := hB5.ext hE4); (try replace hb3_0 := Ext.cell_some hE4 hb3_0); (try replace hb3_1 := Ext.cell_some hE4 hb3_1); (try replace hb3_2 := Ext.cell_some hE4 hb3_2); (try replace hb4_0 := Ext.cell_some hE4 hb4_0); (try replace hb4_1 := Ext.cell_some hE4 hb4_1); (try replace hb5_0 := Ext.cell_some hE4 hb5_0); have hb4_0 := hB4.cell 0; have hb4_1 := hB4.cell 1; simp at hb4_0 hb4_1; clear hE4) | ((with_reducible refine q_box (d := some 5) ?_); intro W5 g5 hE5 hB5 hg5; simp [Act.eval, Act.put, Value.cells] at hB5; (try replace hE := hE.trans hE5); (try replace hF := hF.ext hE5); (try replace hM := hM.ext hE5); (try replace hK := hK.ext hE5); (try replace hB3 := hB3.ext hE5); (try replace hB4 := hB4.ext hE5); (try replace hB5 := hB5.ext hE5); (try replace hb3_0 := Ext.cell_some hE5 hb3_0); (try replace hb3_1 := Ext.cell_some hE5 hb3_1); (try replace hb3_2 := Ext.cell_some hE5 hb3_2); (try replace hb4_0 := Ext.cell_some hE5 hb4_0); (try replace hb4_1 := Ext.cell_some hE5 hb4_1); (try replace hb5_0 := Ext.cell_some hE5 hb5_0); have hb5_0 := hB5.cell 0; simp at hb5_0; clear hE5))
    have hgr1 := grownBy_setCell' W8 g6 (.slice none 0 0)
    have hgr2 := grownBy_setCell' (W8.setCell ⟨g6, 0, none⟩ (.slice none 0 0)) g7 (.int .i64 (fittingErr c s))
    have b6 := hB60.set_ 0 (.slice none 0 0)
    have b7 := (hB70.far (p := ⟨g6, 0, none⟩) n67.symm (.slice none 0 0)).set_ 0 (.int .i64 (fittingErr c s))
    simp at b6 b7
    have b6' := b6.far (p := ⟨g7, 0, none⟩) n67 (.int .i64 (fittingErr c s))
    have hx2 := below_grown (below_grown hE hgr1 h60 hE.size) hgr2 h70 (Nat.le_trans hE.size hgr1.size)
    refine postM_none (ret_cc rfl rfl rfl rfl (ld_26 (cell_blk b6')) (ld_e (cell_blk b7)) ?_)
    exact ⟨_, rfl, IntB.of_own (OwnI.nil 0 _), hx2⟩
end Go.Bp
end
section
/- Plain Lean: enough lines, by keys. -/
namespace Go.Bp
open Go.RowKit
/-- The byte of what stands on line n of a test. -/
def keyB (t : List Int) (n : Int) : UInt8 := UInt8.ofNat (97 + (t.getD (n - 1).toNat 0).toNat)
def keyOf (ls t : List Int) : ByteArray := S (ls.map (keyB t))
theorem keyB_inj {a b : Nat} (ha : a < 100) (hb : b < 100) (h : UInt8.ofNat (97 + a) = UInt8.ofNat (97 + b)) : a = b := by
  have := congrArg UInt8.toNat h
  simp at this
  omega
theorem getD_bd {c : Code} {t : List Int} (ho : c.Ok) (ht : c.TestOk t) (i : Nat) : 0 ≤ t.getD i 0 ∧ t.getD i 0 < 9 := by
  by_cases h : i < t.length
  · have h1 := ht.at h
    have : t.getD i 0 = t[i] := by simp [List.getD, h]
    have := ho.thing9
    omega
  · have : t.getD i 0 = 0 := by simp [List.getD, h]
    omega
theorem key_same {c : Code} {a b : List Int} (ho : c.Ok) (ha : c.TestOk a) (hb : c.TestOk b) (ls : List Int) : keyOf ls a = keyOf ls b ↔ same a b ls = true := by
  unfold keyOf same
  constructor
  · intro h
    have h := S_inj h
    rw [List.all_eq_true]
    intro n hn
    have h2 : keyB a n = keyB b n := by
      have := (List.map_inj_left (f := keyB a) (g := keyB b)).1 h n hn
      exact this
    unfold keyB at h2
    have ba := getD_bd ho ha (n - 1).toNat
    have bb := getD_bd ho hb (n - 1).toNat
    have := keyB_inj (by omega) (by omega) h2
    unfold sameAt
    rw [decide_eq_true_eq]; omega
  · intro h
    rw [List.all_eq_true] at h
    congr 1
    apply List.map_congr_left
    intro n hn
    have := h n hn
    unfold sameAt at this
    rw [decide_eq_true_eq] at this
    unfold keyB; rw [this]
/-- What is known of a key, by the tests so far: 1: one that is not passed; 2: one that is; 3: both. -/
def bit (b : Bool) (n : Int) : Int := if b = true then n else 0
def known (c : Code) (ls : List Int) (ts : List (List Int)) (k : ByteArray) : Int :=
  bit (ts.any fun t => decide (keyOf ls t = k) && !(c.passed t)) 1 + bit (ts.any fun t => decide (keyOf ls t = k) && c.passed t) 2
def verdict (c : Code) (t : List Int) : Int := if c.passed t = true then 2 else 1
def orBits (a b : Int) : Int := if a = b then a else if a = 0 then b else if b = 0 then a else 3
theorem known_nil (c : Code) (ls : List Int) (k : ByteArray) : known c ls [] k = 0 := rfl
theorem known_snoc (c : Code) (ls : List Int) (ts : List (List Int)) (t : List Int) (k : ByteArray) : known c ls (ts ++ [t]) k = if keyOf ls t = k then orBits (known c ls ts k) (verdict c t) else known c ls ts k := by
  unfold known
  simp only [List.any_append, List.any_cons, List.any_nil, Bool.or_false]
  by_cases hk : keyOf ls t = k
  · simp only [hk, decide_true, Bool.true_and, if_true]
    unfold verdict
    cases hp : c.passed t <;> cases h1 : (ts.any fun t => decide (keyOf ls t = k) && !(c.passed t)) <;> cases h2 : (ts.any fun t => decide (keyOf ls t = k) && c.passed t) <;> simp [bit, orBits]
  · simp [hk]
theorem known_bd (c : Code) (ls : List Int) (ts : List (List Int)) (k : ByteArray) : 0 ≤ known c ls ts k ∧ known c ls ts k ≤ 3 := by
  unfold known bit
  constructor <;> split <;> split <;> omega
theorem enough_iff {c : Code} {ts : List (List Int)} {ls : List Int} : enough c ts ls = true ↔ ∀ a ∈ ts, ∀ b ∈ ts, c.passed a = true → c.passed b = false → same a b ls = false := by
  unfold enough passTo
  rw [List.take_length]
  simp only [List.all_eq_true, List.mem_filter, and_imp, beq_iff_eq, Bool.not_eq_true']
  constructor
  · intro h a ha b hb pa pb; exact h a ha pa b hb pb
  · intro h a ha pa b hb pb; exact h a ha b hb pa pb
theorem known_3 {c : Code} {ts : List (List Int)} {ls : List Int} (ho : c.Ok) (hok : ∀ t ∈ ts, c.TestOk t) {pre : List (List Int)} (hpre : ∀ t ∈ pre, t ∈ ts) {k : ByteArray} (h : known c ls pre k = 3) : enough c ts ls = false := by
  have h1 : (pre.any fun t => decide (keyOf ls t = k) && !(c.passed t)) = true := by
    cases hq : (pre.any fun t => decide (keyOf ls t = k) && !(c.passed t)) with
    | true => rfl
    | false => unfold known at h; rw [hq] at h; unfold bit at h; split at h <;> split at h <;> simp_all
  have h2 : (pre.any fun t => decide (keyOf ls t = k) && c.passed t) = true := by
    cases hq : (pre.any fun t => decide (keyOf ls t = k) && c.passed t) with
    | true => rfl
    | false => unfold known at h; rw [hq] at h; unfold bit at h; split at h <;> split at h <;> simp_all
  rw [List.any_eq_true] at h1 h2
  obtain ⟨b, hb, hb2⟩ := h1
  obtain ⟨a, ha, ha2⟩ := h2
  simp only [Bool.and_eq_true, decide_eq_true_eq, Bool.not_eq_true'] at hb2 ha2
  cases hq : enough c ts ls with
  | false => rfl
  | true =>
    have := enough_iff.1 hq a (hpre a ha) b (hpre b hb) ha2.2 hb2.2
    rw [(key_same ho (hok _ (hpre _ ha)) (hok _ (hpre _ hb)) ls).1 (ha2.1.trans hb2.1.symm)] at this
    cases this
theorem known_no3 {c : Code} {ts : List (List Int)} {ls : List Int} (ho : c.Ok) (hok : ∀ t ∈ ts, c.TestOk t) (h : ∀ k, known c ls ts k ≠ 3) : enough c ts ls = true := by
  rw [enough_iff]
  intro a ha b hb pa pb
  cases hq : same a b ls with
  | false => rfl
  | true =>
    exfalso
    have hk := (key_same ho (hok _ ha) (hok _ hb) ls).2 hq
    refine h (keyOf ls a) ?_
    have h1 : (ts.any fun t => decide (keyOf ls t = keyOf ls a) && !(c.passed t)) = true := List.any_eq_true.2 ⟨b, hb, by simp [hk, pb]⟩
    have h2 : (ts.any fun t => decide (keyOf ls t = keyOf ls a) && c.passed t) = true := List.any_eq_true.2 ⟨a, ha, by simp [pa]⟩
    unfold known
    rw [h1, h2]; rfl
end Go.Bp
end
section
/- Plain Lean: the fewest lines to strike, among the faults alone. -/
namespace Go.Bp
open Go.RowKit
theorem combos_big : ∀ (l : List Int) (m : Nat), l.length < m → combos m l = []
  | [], m, h => by cases m with | zero => simp at h | succ m => rfl
  | x :: l, m, h => by
    cases m with
    | zero => simp at h
    | succ m =>
      have h1 := combos_big l m (by simp at h; omega)
      have h2 := combos_big l (m + 1) (by simp at h; omega)
      simp [combos, h1, h2]
theorem combos_filter (q : Int → Bool) : ∀ (l : List Int) (m : Nat), combos m (l.filter q) = (combos m l).filter fun t => t.all q
  | [], m => by cases m <;> rfl
  | x :: l, 0 => by rw [combos, combos]; rfl
  | x :: l, m + 1 => by
    have h1 := combos_filter q l m
    have h2 := combos_filter q l (m + 1)
    by_cases hx : q x = true
    · rw [List.filter_cons_of_pos hx, combos, combos, List.filter_append, h1, h2, List.filter_map]
      congr 2
      apply List.filter_congr
      intro t _
      simp [hx]
    · rw [List.filter_cons_of_neg hx, combos, List.filter_append, h2, List.filter_map]
      have : (combos m l).filter ((fun t => t.all q) ∘ fun t => x :: t) = [] := by
        rw [List.filter_eq_nil_iff]
        intro t _
        simp [hx]
      rw [this]; simp
theorem combos_sublist : ∀ (l : List Int) (m : Nat), ∀ t ∈ combos m l, t.Sublist l
  | [], m, t, ht => by cases m <;> simp [combos] at ht; subst ht; exact List.Sublist.slnil
  | x :: l, 0, t, ht => by simp [combos] at ht; subst ht; exact List.nil_sublist _
  | x :: l, m + 1, t, ht => by
    simp only [combos, List.mem_append, List.mem_map] at ht
    rcases ht with ⟨u, hu, rfl⟩ | ht
    · exact (combos_sublist l m u hu).cons_cons x
    · exact (combos_sublist l (m + 1) t ht).cons x
theorem find_congr {α : Type} {p q : α → Bool} : ∀ {l : List α}, (∀ x ∈ l, p x = q x) → l.find? p = l.find? q
  | [], _ => rfl
  | x :: l, h => by
    rw [List.find?_cons, List.find?_cons, h x (by simp), find_congr (l := l) (fun y hy => h y (by simp [hy]))]
theorem findSome_congr {α β : Type} {f g : α → Option β} : ∀ {l : List α}, (∀ x ∈ l, f x = g x) → l.findSome? f = l.findSome? g
  | [], _ => rfl
  | x :: l, h => by
    rw [List.findSome?_cons, List.findSome?_cons, h x (by simp), findSome_congr (l := l) (fun y hy => h y (by simp [hy]))]
theorem fewestBy_congr {p q : List Int → Bool} {ls : List Int} (h : ∀ m, m ≤ ls.length → ∀ l ∈ combos m ls, p l = q l) : fewestBy p ls = fewestBy q ls := by
  unfold fewestBy
  apply findSome_congr
  intro m hm
  exact find_congr (h m (by have := List.mem_range.1 hm; omega))
theorem fewestBy_far (p : List Int → Bool) (ls : List Int) : ∀ d, fewestBy p ls = (List.range (ls.length + 1 + d)).findSome? fun m => (combos m ls).find? p
  | 0 => rfl
  | d + 1 => by
    rw [fewestBy_far p ls d, show ls.length + 1 + (d + 1) = ls.length + 1 + d + 1 from rfl, List.range_succ, List.findSome?_append]
    have : combos (ls.length + 1 + d) ls = [] := combos_big _ _ (by omega)
    simp [this]
theorem fewestBy_filter (p : List Int → Bool) (q : Int → Bool) (ls : List Int) : fewestBy p (ls.filter q) = fewestBy (fun l => l.all q && p l) ls := by
  have hle : (ls.filter q).length ≤ ls.length := List.length_filter_le _ _
  rw [fewestBy_far p _ (ls.length - (ls.filter q).length), show (ls.filter q).length + 1 + (ls.length - (ls.filter q).length) = ls.length + 1 by omega]
  unfold fewestBy
  apply findSome_congr
  intro m _
  rw [combos_filter, List.find?_filter]
  apply find_congr
  intro x _
  cases x.all q <;> cases p x <;> rfl
/-- The numbers of the lines that are faults. -/
def isFaultNo (c : Code) (t : List Int) (n : Int) : Bool := decide (t.getD (n - 1).toNat 0 < c.faults.length)
def faultNos (c : Code) (t : List Int) : List Int := (numbers t.length).filter (isFaultNo c t)
def faultNosTo (c : Code) (t : List Int) (k : Nat) : List Int := (numbers k).filter (isFaultNo c t)
theorem faultNosTo_succ (c : Code) (t : List Int) {k : Nat} (hk : k < t.length) : faultNosTo c t (k + 1) = if t[k] < (c.faults.length : Int) then faultNosTo c t k ++ [(k : Int) + 1] else faultNosTo c t k := by
  unfold faultNosTo
  rw [numbers_succ, List.filter_append]
  have h1 : isFaultNo c t ((k : Int) + 1) = decide (t[k] < (c.faults.length : Int)) := by
    unfold isFaultNo
    have : ((k : Int) + 1 - 1).toNat = k := by omega
    rw [this]; simp [List.getD, hk]
  by_cases h : t[k] < (c.faults.length : Int)
  · rw [if_pos h]; simp [h1, h]
  · rw [if_neg h]; simp [h1, h]
theorem faultNosTo_len (c : Code) (t : List Int) (k : Nat) : (faultNosTo c t k).length ≤ k := by
  have := List.length_filter_le (isFaultNo c t) (numbers k)
  rw [numbers_len] at this; exact this
theorem numbers_nodup : ∀ m, (numbers m).Nodup
  | 0 => by simp [numbers]
  | m + 1 => by
    rw [numbers_succ, List.nodup_append]
    refine ⟨numbers_nodup m, by simp, ?_⟩
    intro a ha b hb e
    simp at hb; subst hb; subst e
    have := (mem_numbers.1 ha).2; omega
/-- Is a test passed of which some lines are struck? -/
def struck (c : Code) (t ls : List Int) : Bool := c.passed (without c t ls).1
theorem faults_all {c : Code} {t ls : List Int} (h : ∀ n ∈ ls, 1 ≤ n ∧ n ≤ t.length) : (without c t ls).2 = ls.all (isFaultNo c t) := by
  show faultsTo c t ls t.length = _
  unfold faultsTo
  rw [Bool.eq_iff_iff, List.all_eq_true, List.all_eq_true]
  constructor
  · intro h2 n hn
    obtain ⟨h3, h4⟩ := h n hn
    have := h2 (n - 1).toNat (List.mem_range.2 (by omega))
    have e : (((n - 1).toNat : Nat) : Int) + 1 = n := by omega
    rw [e] at this
    simp only [hasB, hn, decide_true, Bool.not_true, Bool.false_or] at this
    exact this
  · intro h2 i _
    by_cases hi : hasB ls ((i : Int) + 1) = true
    · rw [hi]
      have := h2 ((i : Int) + 1) (by simpa [hasB] using hi)
      unfold isFaultNo at this
      have e : (((i : Int) + 1 - 1)).toNat = i := by omega
      rw [e] at this
      simpa using this
    · simp [hi]
theorem appeal_faults {c : Code} {t : List Int} : fewestBy (struck c t) (faultNos c t) = fewestBy (helps c t) (numbers t.length) := by
  unfold faultNos
  rw [fewestBy_filter]
  apply fewestBy_congr
  intro m _ l hl
  have hs := combos_sub _ _ l hl
  unfold helps struck
  rw [faults_all (fun n hn => mem_numbers.1 (hs n hn))]
theorem cnt_one (_c : Code) (t l : List Int) (i k : Nat) : List.countP (fun x => decide (x = (i : Int))) (List.map (fun i => t.getD i 0) (List.filter (fun i : Nat => !(hasB l ((i : Int) + 1))) [k])) = if hasB l ((k : Int) + 1) = true then 0 else if t.getD k 0 = (i : Int) then 1 else 0 := by
  cases h : hasB l ((k : Int) + 1) with
  | true => simp [h]
  | false =>
    by_cases hv : t.getD k 0 = (i : Int)
    · rw [if_neg (by simp), if_pos hv, List.filter_cons_of_pos (by simp [h]), List.filter_nil, List.map_cons, List.map_nil, List.countP_cons, hv]; simp
    · rw [if_neg (by simp), if_neg hv, List.filter_cons_of_pos (by simp [h]), List.filter_nil, List.map_cons, List.map_nil, List.countP_cons, decide_eq_false hv]; simp
theorem cnt_left (c : Code) (t ls : List Int) {n : Nat} (h1 : 1 ≤ n) (hn : (n : Int) ∉ ls) (i : Nat) : ∀ k, Code.cnt (leftTo c t ls k) i = Code.cnt (leftTo c t (ls ++ [(n : Int)]) k) i + if n ≤ k ∧ t.getD (n - 1) 0 = (i : Int) then 1 else 0
  | 0 => by
    rw [if_neg (by omega)]; simp [leftTo]
  | k + 1 => by
    have ih := cnt_left c t ls h1 hn i k
    unfold leftTo at ih ⊢
    unfold Code.cnt at ih ⊢
    rw [List.range_succ, List.filter_append, List.filter_append, List.map_append, List.map_append, List.countP_append, List.countP_append, ih, cnt_one c t ls, cnt_one c t (ls ++ [(n : Int)])]
    by_cases hk : n = k + 1
    · have e0 : (n : Int) = (k : Int) + 1 := by omega
      have e1 : hasB ls ((k : Int) + 1) = false := by rw [← e0]; simpa [hasB] using hn
      have e2 : hasB (ls ++ [(n : Int)]) ((k : Int) + 1) = true := by rw [← e0]; simp [hasB]
      have e3 : n - 1 = k := by omega
      rw [e1, e2, e3, if_neg (by omega)]
      by_cases hv : t.getD k 0 = (i : Int)
      · rw [if_neg (by simp), if_pos hv, if_pos rfl, if_pos ⟨by omega, hv⟩]
      · rw [if_neg (by simp), if_neg hv, if_pos rfl, if_neg (fun h => hv h.2)]
    · have e1 : hasB (ls ++ [(n : Int)]) ((k : Int) + 1) = hasB ls ((k : Int) + 1) := by
        unfold hasB
        have : ((k : Int) + 1) ≠ (n : Int) := by omega
        simp [this]
      rw [e1]
      have e3 : (n ≤ k + 1 ∧ t.getD (n - 1) 0 = (i : Int)) ↔ (n ≤ k ∧ t.getD (n - 1) 0 = (i : Int)) := by
        constructor <;> (rintro ⟨h2, h3⟩; exact ⟨by omega, h3⟩)
      simp only [e3]
      omega
theorem left_none (c : Code) (t : List Int) : (without c t []).1 = t := by
  show leftTo c t [] t.length = t
  unfold leftTo
  have e : ((List.range t.length).filter fun i : Nat => !(hasB [] ((i : Int) + 1))) = List.range t.length := List.filter_eq_self.2 (fun a _ => by simp [hasB])
  rw [e]
  apply List.ext_getElem
  · simp
  · intro i h1 h2
    simp [h2]
theorem cntArr_strike {c : Code} {t ls : List Int} {n : Nat} (h1 : 1 ≤ n) (hn : (n : Int) ∉ ls) (hl : n - 1 < t.length) (h0 : 0 ≤ t[n - 1]) {k : Nat} (_hk : t[n - 1] < (k : Int)) :
    1 ≤ Code.cnt (without c t ls).1 (t[n - 1]).toNat ∧
    (cntArr k (without c t ls).1).setIfInBounds (t[n - 1]).toNat (.int .i64 ((Code.cnt (without c t ls).1 (t[n - 1]).toNat : Int) - 1)) = cntArr k (without c t (ls ++ [(n : Int)])).1 := by
  have hg : t.getD (n - 1) 0 = t[n - 1] := by simp [List.getD, hl]
  have hc := fun i => cnt_left c t ls h1 hn i t.length
  have h4 := hc (t[n - 1]).toNat
  rw [if_pos ⟨by omega, by rw [hg]; omega⟩] at h4
  have e1 : ∀ l, (without c t l).1 = leftTo c t l t.length := fun _ => rfl
  rw [e1, e1]
  refine ⟨by omega, ?_⟩
  apply Array.ext
  · simp [cntArr]
  · intro i h5 h6
    simp only [Array.size_setIfInBounds, cntArr_size] at h5
    rw [Array.getElem_setIfInBounds (by simpa [cntArr_size] using h5)]
    split
    · rename_i e
      subst e
      simp only [cntArr, List.getElem_toArray, List.getElem_map, List.getElem_range]
      rw [h4]; congr 1; omega
    · rename_i e
      have := hc i
      rw [if_neg (by rintro ⟨_, h8⟩; rw [hg] at h8; omega)] at this
      simp only [cntArr, List.getElem_toArray, List.getElem_map, List.getElem_range]
      rw [this]; simp
end Go.Bp
end
section
set_option maxRecDepth 100000
set_option linter.unusedSimpArgs false
set_option linter.unusedVariables false
namespace Go.Bp
open Go.RowKit Go.Proofs
/-- A function of lists that answers pr, from w on. -/
def HoldsC (w : World) (F : FuncId) (bd cap : Array Value) (pr : List Int → Bool) (ls : List Int) : Prop :=
  ∀ l v W, l.Sublist ls → Ext w W → Ints W v l → Calls Tryz.prog F (bd.push v ++ cap) W fun e W' => e = .returned (.bool (pr l)) ∧ Ext W W'
/-- What the search of the fewest keeps in cells. -/
structure FS (n0 gh gl go gp : Nat) (hv ov : Value) (W : World) (lv : Value) (q : List Int) : Prop where
  holds : Blk W gh 91 #[hv]
  cur : Blk W gl 26 #[lv]
  own : OwnI n0 W lv q
  src : Blk W go 26 #[ov]
  pl : Blk W gp 138 #[.func (.func 105) #[] #[.pointer (some ⟨gh, 0, none⟩), .pointer (some ⟨gl, 0, none⟩), .pointer (some ⟨go, 0, none⟩), .pointer (some ⟨gp, 0, none⟩)]]
theorem FS.ext {n0 gh gl go gp : Nat} {hv ov lv : Value} {W W' : World} {q : List Int} (h : FS n0 gh gl go gp hv ov W lv q) (e : Ext W W') : FS n0 gh gl go gp hv ov W' lv q := ⟨h.holds.ext e, h.cur.ext e, h.own.ext e, h.src.ext e, h.pl.ext e⟩
theorem sub_take {q ls : List Int} {k j : Nat} (h : q.Sublist (ls.take k)) (hkj : k ≤ j) (hj : j < ls.length) : (q ++ [ls[j]]).Sublist (ls.take (j + 1)) := by
  rw [take_snoc ls hj]
  refine (h.trans ?_).append_right _
  have : ls.take k = (ls.take j).take k := by rw [List.take_take, Nat.min_eq_left hkj]
  rw [this]; exact List.take_sublist _ _
theorem combos_step (m : Nat) (ls : List Int) {j : Nat} (hj : j < ls.length) : combos (m + 1) (ls.drop j) = (combos m (ls.drop (j + 1))).map (ls[j] :: ·) ++ combos (m + 1) (ls.drop (j + 1)) := by
  rw [List.drop_eq_getElem_cons hj, combos]
theorem find_map_cons (pr : List Int → Bool) (q : List Int) (x : Int) : ∀ l : List (List Int), (l.map (x :: ·)).find? (fun r => pr (q ++ r)) = (l.find? fun r => pr ((q ++ [x]) ++ r)).map (x :: ·)
  | [] => rfl
  | r :: l => by
    rw [List.map_cons, List.find?_cons, List.find?_cons]
    have e : (q ++ [x]) ++ r = q ++ x :: r := by simp
    rw [e]
    cases h : pr (q ++ x :: r) with
    | true => rfl
    | false => exact find_map_cons pr q x l
/-- What the search has still before it. -/
def ahead (m : Nat) (ls : List Int) (k j : Nat) : List (List Int) := combos (m + 1) (ls.drop (max k j))
set_option maxHeartbeats 8000000 in
theorem pfew_any (n0 gh gl go gp : Nat) (F : FuncId) (bd cap : Array Value) (ov : Value) (ls : List Int) (pr : List Int → Bool) (w0 : World) (hov : Ints w0 ov ls) (hlen : ls.length ≤ 12) (hn0 : n0 = w0.heap.size)
    (hF : ∀ (args : Array Value) (W : World), (callFunc F args).run Tryz.prog W = .ok (.enter F args) W) (hH : HoldsC w0 F bd cap pr ls) (hgh : n0 ≤ gh) (hgl : n0 ≤ gl) (hgo : n0 ≤ go) (hgp : n0 ≤ gp) (hgol : go ≠ gl) :
    ∀ (m k : Nat) (q : List Int) (lv : Value) (W : World), m ≤ 13 → k ≤ ls.length → q.Sublist (ls.take k) → FS n0 gh gl go gp (.func (.func F) bd cap) ov W lv q → Ext w0 W →
    Calls Tryz.prog 105 #[.int .i64 k, .int .i64 m, .pointer (some ⟨gh, 0, none⟩), .pointer (some ⟨gl, 0, none⟩), .pointer (some ⟨go, 0, none⟩), .pointer (some ⟨gp, 0, none⟩)] W fun e W' => Ext w0 W' ∧
      ((e = .returned (.bool true) ∧ ∃ r lv', (combos m (ls.drop k)).find? (fun r => pr (q ++ r)) = some r ∧ FS n0 gh gl go gp (.func (.func F) bd cap) ov W' lv' (q ++ r)) ∨
       (e = .returned (.bool false) ∧ (combos m (ls.drop k)).find? (fun r => pr (q ++ r)) = none ∧ ∃ lv', FS n0 gh gl go gp (.func (.func F) bd cap) ov W' lv' q)) := by
  subst hn0
  have HH := Lib.hid hH
  clear hH
  intro m
  induction m with
  | zero =>
    intro k q lv W hm hk hq hS hE
    have c1 := hS.holds.cell 0; have c2 := hS.cur.cell 0
    simp at c1 c2
    have hc := HH.out q lv W (hq.trans (List.take_sublist _ _)) hE hS.own.ints
    have Hc := Lib.hid hc; have HS := Lib.hid hS; have HE := Lib.hid hE
    clear hc hov hE
    show Calls Tryz.prog 105 #[.int .i64 k, .int .i64 0, _, _, _, _] W _
    go_enter Tryz.func105, Tryz.ntmps105
    go_wp2_with fail
    go_step3
    go_wp2_with fail
    refine Hc.out.mono ?_
    rintro e W1 ⟨rfl, hE1⟩
    go_wp2
    rw [Exit.noGoto_ret]
    go_ret
    refine ⟨HE.out.trans hE1, ?_⟩
    cases hp : pr q with
    | true => exact .inl ⟨rfl, [], lv, by simp [combos, hp], by simpa using HS.out.ext hE1⟩
    | false => exact .inr ⟨rfl, by simp [combos, hp], lv, HS.out.ext hE1⟩
  | succ m ih =>
    intro k q lv W hm hk hq hS hE
    obtain ⟨A, cp, hov2, o1, o2, o3, o4⟩ := id hov
    subst hov2
    unfold maxLen at o2
    have Hih := Lib.hid ih; have HS := Lib.hid hS; have HE := Lib.hid hE; have Hov := Lib.hid hov; have Hq := Lib.hid hq; have Ho4 := Lib.hid o4
    have c4 := hS.src.cell 0
    simp at c4
    obtain ⟨M, hM⟩ : ∃ M : Int, ((m + 1 : Nat) : Int) = M := ⟨_, rfl⟩
    rw [hM]
    have zm : (M == 0) = false := by simp; omega
    have zm1 : IntKind.i64.wrap (M - 1) = (m : Int) := by rw [show M - 1 = (m : Int) by omega]; exact IntWalk.i64_in _ (by omega)
    clear hM
    clear ih hS hE hov hq o3 o4
    go_enter Tryz.func105, Tryz.ntmps105
    go_wp2
    go_step3
    go_wp2
    go_step3
    go_wp2
    have HW := Lib.hid (show FS w0.heap.size gh gl go gp (.func (.func F) bd cap) (.slice A ls.length cp) W lv q ∧ Ext w0 W from ⟨HS.out, HE.out⟩)
    go_loopw [18] (fun i Wr => ∃ (j : Nat) (lv : Value), j ≤ ls.length ∧ i = .int .i64 j ∧ FS w0.heap.size gh gl go gp (.func (.func F) bd cap) (.slice A ls.length cp) Wr lv q ∧ Ext w0 Wr ∧ (combos (m + 1) (ls.drop k)).find? (fun r => pr (q ++ r)) = (ahead m ls k j).find? (fun r => pr (q ++ r))) (fun i _ => ls.length - (intOf i).toNat)
    case atStart => exact ⟨0, lv, by omega, rfl, HW.out.1, HW.out.2, by simp [ahead]⟩
    case round =>
      obtain ⟨j, lv, hj, rfl, hS, hE, hfind⟩ := hrel
      have Hf := Lib.hid hfind
      clear hfind HS HE HW
      have c1 := hS.holds.cell 0; have c2 := hS.cur.cell 0; have c5 := hS.pl.cell 0
      simp at c1 c2 c5
      by_cases hlt : j < ls.length
      · obtain ⟨ad, rfl, hc⟩ := Ho4.out (by omega)
        have e1 := (hc.ext hE).i hlt
        clear hc
        have zj : IntKind.i64.wrap ((j : Int) + 1) = (j : Int) + 1 := IntWalk.i64_in _ (by omega)
        have hS0 := Lib.hid hS
        by_cases hjk : j < k
        · have k1 : ((j : Int) < (k : Int)) := by omega
          go_wp2
          go_roundw
          case rel => exact ⟨j + 1, lv, by omega, by go_num, hS0.out, hE, by rw [Hf.out]; unfold ahead; rw [Nat.max_eq_left (by omega), Nat.max_eq_left (by omega)]⟩
          case measure => simp [intOf]; omega
        · have k1 : ¬ ((j : Int) < (k : Int)) := by omega
          have hstep : (ahead m ls k j).find? (fun r => pr (q ++ r)) = (((combos m (ls.drop (j + 1))).find? fun r => pr ((q ++ [ls[j]]) ++ r)).map (ls[j] :: ·)).or ((ahead m ls k (j + 1)).find? fun r => pr (q ++ r)) := by
            unfold ahead
            rw [Nat.max_eq_right (by omega), Nat.max_eq_right (by omega), combos_step m ls hlt, List.find?_append, find_map_cons]
          have Hst := Lib.hid hstep
          obtain ⟨x, hxe⟩ : ∃ x, ls[j] = x := ⟨_, rfl⟩
          have hsub := sub_take Hq.out (show k ≤ j by omega) hlt
          rw [hxe] at hsub hstep e1
          rw [hxe] at Hst
          have Hsub := Lib.hid hsub
          have hq12 : q.length ≤ 12 := by have h1 := hsub.length_le; have := List.length_take_le (j + 1) ls; rw [List.length_append] at h1; omega
          clear hsub hstep
          go_wp2_with (first | ((with_reducible refine q_bsI (d := some 28) (n := x) ?_ ?_); (first | rfl | (simp [Act.eval]; exact hxe)); intro Wb gbs hEb hBb hgb; have hSb := hS.ext hEb; have hE2 := hE.trans hEb; have hn2 : w0.heap.size ≤ Wb.heap.size := hE2.size) | ((with_reducible refine q_appIo (d := some 29) rfl hSb.own rfl hBb (by omega) hn2 ?_); intro v' Wa hOa hgra hoa; have ne1 := own_ne hSb.own hSb.holds (.inl (by decide)); have ne2 := own_ne hSb.own hSb.cur (.inl (by decide)); have ne3 := own_ne hSb.own hSb.src (.inl (by decide)); have ne4 := own_ne hSb.own hSb.pl (.inl (by decide)); have hHa := hSb.holds.grown hgra (fun e => ne1 e.symm); have hCa := hSb.cur.grown hgra (fun e => ne2 e.symm); have hSa := hSb.src.grown hgra (fun e => ne3 e.symm); have hPa := hSb.pl.grown hgra (fun e => ne4 e.symm); have hE3 : Ext w0 Wa := grown_ext hE2 hSb.own hgra hn2; have hcl := own_cells hOa; have h01 : 0 < (#[lv] : Array Value).size := (by simp)) | ((with_reducible refine q_store1 (t := 26) (g := gl) (off := 0) (v := v') ?_ ?_ hCa size26 hcl.1 h01 hcl.2 ?_); rfl; rfl; intro Ws hBs hgrs; simp at hBs; have ne5 := own_ne hOa hCa (.inl (by decide)); have hOs := own_grown hOa hgrs ne5; have ne6 := blk_ne hHa hCa (by decide); have ne7 := blk_ne hPa hCa (by decide); have hHs := hHa.grown hgrs (fun e => ne6 (Option.some.inj e)); have hPs := hPa.grown hgrs (fun e => ne7 (Option.some.inj e)); have hSs := hSa.grown hgrs (fun e => hgol (Option.some.inj e)); have hE4 : Ext w0 Ws := below_grown hE3 hgrs hgl hE3.size; have cpS := hPs.cell 0; simp at cpS; have hrec := Hih.out (j + 1) (q ++ [x]) v' Ws (by omega) (by omega) Hsub.out ⟨hHs, hBs, hOs, hSs, hPs⟩ hE4; rw [show ((j + 1 : Nat) : Int) = (j : Int) + 1 from by omega] at hrec) | (go_at_call 105; refine hrec.mono ?_; clear hrec; (rintro e Wz ⟨hEz, (⟨rfl, r2, lv2, hfr, hSz⟩ | ⟨rfl, hfr, lv2, hSz⟩)⟩); (all_goals (have Hfr := Lib.hid hfr; clear hfr)); (all_goals (try (obtain ⟨Az, cz, htz, hz1, hz2, hz3, hz4⟩ := hSz.own.ints; subst htz; clear hz3 hz4; obtain ⟨n1, hn1e⟩ : ∃ n, (q ++ [x]).length = n := ⟨_, rfl⟩; have Hn1e := Lib.hid hn1e; rw [hn1e] at hSz hz1; have hn1p : (n1 : Int) - 1 = q.length := (by have h := Hn1e.out; simp at h; omega); have zn1 : IntKind.i64.wrap ((n1 : Int) - 1) = q.length := (by rw [hn1p]; exact IntWalk.i64_in _ (by omega)); clear hn1e hn1p; have ctz := hSz.cur.cell 0; simp at ctz; have hTz := hSz.cur; have hOz := hSz.own)))) | ((with_reducible refine q_popI (d := some 40) (xs := q) (z := x) ?_ hOz ?_ ?_); rfl; rfl; intro u hOu hou; have hclu := own_cells hOu; have h02 : 0 < (#[Value.slice Az n1 cz] : Array Value).size := (by simp)) | ((with_reducible refine q_store1 (t := 26) (g := gl) (off := 0) (v := u) ?_ ?_ hTz size26 hclu.1 h02 hclu.2 ?_); rfl; rfl; intro Wt hBt hgrt; simp at hBt; have ne8 := own_ne hOu hTz (.inl (by decide)); have hOt := own_grown hOu hgrt ne8; have ne9 := blk_ne hSz.holds hTz (by decide); have ne10 := blk_ne hSz.pl hTz (by decide); have hHt := hSz.holds.grown hgrt (fun e => ne9 (Option.some.inj e)); have hPt := hSz.pl.grown hgrt (fun e => ne10 (Option.some.inj e)); have hSt := hSz.src.grown hgrt (fun e => hgol (Option.some.inj e)); have hE6 := below_grown hEz hgrt hgl hEz.size))
          · rw [Exit.noGoto_ret]
            go_ret
            refine ⟨hEz, .inl ⟨rfl, x :: r2, lv2, ?_, by simpa using hSz⟩⟩
            rw [Hf.out, Hst.out, Hfr.out]; rfl
          · go_roundw
            case rel => exact ⟨j + 1, u, by omega, by go_num, ⟨hHt, hBt, hOt, hSt, hPt⟩, hE6, by rw [Hf.out, Hst.out, Hfr.out]; rfl⟩
            case measure => simp [intOf]; omega
      · go_wp2
        rw [Exit.noGoto_ret]
        go_ret
        obtain rfl : j = ls.length := by omega
        refine ⟨hE, .inr ⟨rfl, ?_, lv, hS⟩⟩
        rw [Hf.out]; unfold ahead
        rw [Nat.max_eq_right (by omega), List.drop_length]; rfl
end Go.Bp
end
section
set_option maxRecDepth 100000
set_option linter.unusedSimpArgs false
set_option linter.unusedVariables false
namespace Go.Bp
open Go.RowKit Go.Proofs
theorem ti138 : (Tryz.prog.info? 138).map (fun i => (i.zero, i.size, i.bytes)) = some (some .nilFunc, 1, 8) := by kernel_rfl
theorem size138 : (Tryz.prog.info? 138).map TypeInfo.size = some 1 := by kernel_rfl
theorem ld_own {w : World} {p : Addr} {v : Value} {B : Nat} {xs : List Int} (h : w.cell? p = some v) (hO : OwnI B w v xs) : (loadVar 26 p).run Tryz.prog w = .ok v w := by
  obtain ⟨A, c, rfl, _⟩ := hO.ints
  exact load_one Tryz.underlying26 rfl h
theorem find_none_all {p : List Int → Bool} {l : List (List Int)} (h : l.find? p = none) : ∀ x ∈ l, p x = false := by
  rw [List.find?_eq_none] at h
  intro x hx
  simpa using h x hx
set_option maxHeartbeats 4000000 in
theorem pfewest_any (F : FuncId) (bd cap : Array Value) (ov : Value) (ls : List Int) (pr : List Int → Bool) (w : World) (hov : Ints w ov ls) (hlen : ls.length ≤ 12)
    (hF : ∀ (args : Array Value) (W : World), (callFunc F args).run Tryz.prog W = .ok (.enter F args) W) (hH : HoldsC w F bd cap pr ls) :
    Calls Tryz.prog 65 #[ov, .func (.func F) bd cap] w fun e w' => ∃ v b, e = .returned (.tuple #[v, .bool b]) ∧ Ext w w' ∧ ((b = true ∧ ∃ l, fewestBy pr ls = some l ∧ IntB w' v l) ∨ (b = false ∧ fewestBy pr ls = none ∧ v = .slice none 0 0)) := by
  have HH := Lib.hid hH
  have hE := Ext.refl w
  have hov0 := hov
  obtain ⟨A, cp, hov2, o1, o2, o3, o4⟩ := id hov
  subst hov2
  unfold maxLen at o2
  clear hH o3 o4
  go_enter Tryz.func65, Tryz.ntmps65
  go_wp2_with (first | (((with_reducible refine q_box (d := some 3) ?_); intro W3 g3 hE3 hB3 hg3; simp [Act.eval, Act.put, Value.cells] at hB3; have h30 := Nat.le_trans hE.size hg3; replace hE := hE.trans hE3; replace hB2 := hB2.ext hE3)) | (((with_reducible refine q_alloc (d := some 4) ti26 ?_); intro W4 g4 hE4 hB4 hg4; have h40 := Nat.le_trans hE.size hg4; have hB40 : Blk W4 g4 26 #[.slice none 0 0] := hB4; have n24 : g2 ≠ g4 := (by have := hB2.lt; omega); replace hB2 := hB2.ext hE4; replace hB3 := hB3.ext hE4; replace hE := hE.trans hE4)) | (((with_reducible refine q_alloc (d := some 6) ti138 ?_); intro W6 g6 hE6 hB6 hg6; have h60 := Nat.le_trans hE.size hg6; have hB60 : Blk W6 g6 138 #[.nilFunc] := hB6; replace hB2 := hB2.ext hE6; replace hB3 := hB3.ext hE6; replace hB40 := hB40.ext hE6; replace hE := hE.trans hE6; have h01 : 0 < (#[Value.nilFunc] : Array Value).size := (by simp))) | (((with_reducible refine q_store1 (t := 138) (g := g6) (off := 0) (v := .func (.func 105) #[] #[.pointer (some ⟨g3, 0, none⟩), .pointer (some ⟨g4, 0, none⟩), .pointer (some ⟨g2, 0, none⟩), .pointer (some ⟨g6, 0, none⟩)]) ?_ ?_ hB60 size138 ?_ h01 ?_ ?_); rfl; rfl; rfl; rfl; intro Ws hBs hgrs; simp at hBs; have n36 := blk_ne hB3 hB60 (by decide); have n26 := blk_ne hB2 hB60 (by decide); have n46 := blk_ne hB40 hB60 (by decide); have hB2s := hB2.grown hgrs (fun e => n26 (Option.some.inj e)); have hB3s := hB3.grown hgrs (fun e => n36 (Option.some.inj e)); have hB4s := hB40.grown hgrs (fun e => n46 (Option.some.inj e)); have hEs := below_grown hE hgrs h60 hE.size; have c2 := cell_blk hB2s)) | ((with_reducible refine q_box (d := some 2) ?_); intro W2 g2 hE2 hB2 hg2; simp [Act.eval, Act.put, Value.cells] at hB2; (try replace hE := hE.trans hE2); (try replace hov := hov.ext hE2); (try replace hB2 := hB2.ext hE2); (try replace hB3 := hB3.ext hE2); (try replace hb2_0 := Ext.cell_some hE2 hb2_0); (try replace hb3_0 := Ext.cell_some hE2 hb3_0); have hb2_0 := hB2.cell 0; simp at hb2_0; clear hE2) | ((with_reducible refine q_box (d := some 3) ?_); intro W3 g3 hE3 hB3 hg3; simp [Act.eval, Act.put, Value.cells] at hB3; (try replace hE := hE.trans hE3); (try replace hov := hov.ext hE3); (try replace hB2 := hB2.ext hE3); (try replace hB3 := hB3.ext hE3); (try replace hb2_0 := Ext.cell_some hE3 hb2_0); (try replace hb3_0 := Ext.cell_some hE3 hb3_0); have hb3_0 := hB3.cell 0; simp at hb3_0; clear hE3))
  have z1 : IntKind.i64.wrap ((ls.length : Int) + 1) = (ls.length : Int) + 1 := IntWalk.i64_in _ (by omega)
  have h20 : w.heap.size ≤ g2 := hg2
  have HW := Lib.hid (show FS w.heap.size g3 g4 g2 g6 (.func (.func F) bd cap) (.slice A ls.length cp) Ws (.slice none 0 0) [] ∧ Ext w Ws from ⟨⟨hB3s, hB4s, OwnI.nil _ _, hB2s, hBs⟩, hEs⟩)
  clear hB2s hB3s hB4s hBs hEs
  go_loopw [12] (fun i Wr => ∃ (m : Nat) (lv : Value), m ≤ ls.length + 1 ∧ i = .int .i64 m ∧ FS w.heap.size g3 g4 g2 g6 (.func (.func F) bd cap) (.slice A ls.length cp) Wr lv [] ∧ Ext w Wr ∧ ∀ j, j < m → (combos j ls).find? pr = none) (fun i _ => ls.length + 1 - (intOf i).toNat)
  case atStart => exact ⟨0, _, by omega, rfl, HW.out.1, HW.out.2, fun j hj => by omega⟩
  case round =>
    obtain ⟨m, lv, hm, rfl, hS, hE, hn⟩ := hrel
    have Hn := Lib.hid hn
    clear hn HW
    have c6 := hS.pl.cell 0; have c4 := hS.cur.cell 0
    simp at c6 c4
    by_cases hlt : m < ls.length + 1
    · have k1 : ((m : Int) < (ls.length : Int) + 1) := by omega
      have hrec := pfew_any w.heap.size g3 g4 g2 g6 F bd cap _ ls pr w hov0 hlen rfl hF HH.out h30 h40 h20 h60 n24 m 0 [] lv wr (by omega) (by omega) (List.nil_sublist _) hS hE
      rw [show ((0 : Nat) : Int) = 0 from rfl] at hrec
      simp only [List.drop_zero, List.nil_append] at hrec
      go_wp2_with (first | (go_at_call 105; refine hrec.mono ?_; clear hrec; (rintro e Wz ⟨hEz, (⟨rfl, r2, lv2, hfr, hSz⟩ | ⟨rfl, hfr, lv2, hSz⟩)⟩); (all_goals (have Hfr := Lib.hid hfr; clear hfr)); (all_goals (have cz := hSz.cur.cell 0; simp at cz; have hcl := own_cells hSz.own; have hCz := hSz.cur; have h01 : 0 < (#[lv2] : Array Value).size := (by simp)))) | ((with_reducible refine q_store1 (t := 26) (g := g4) (off := 0) (v := lv2) ?_ ?_ hCz size26 hcl.1 h01 hcl.2 ?_); rfl; rfl; intro Wt hBt hgrt; simp at hBt; have ne8 := own_ne hSz.own hCz (.inl (by decide)); have hOt := own_grown hSz.own hgrt ne8; have hEt := below_grown hEz hgrt h40 hEz.size))
      · refine ret_c2 rfl rfl rfl (ld_own (cell_blk hBt) hOt) ?_
        exact ⟨_, _, rfl, hEt, .inl ⟨rfl, r2, fewestBy_some (m := m) (by omega) (fun j hj => find_none_all (Hn.out j hj)) (by simpa using Hfr.out), IntB.of_own hOt⟩⟩
      · go_roundw
        case rel => exact ⟨m + 1, lv2, by omega, by go_num, hSz, hEz, fun j hj => by
          by_cases e : j = m
          · subst e; exact Hfr.out
          · exact Hn.out j (by omega)⟩
        case measure => simp [intOf]; omega
    · have k1 : ¬ ((m : Int) < (ls.length : Int) + 1) := by omega
      have hCz := hS.cur
      have h01 : 0 < (#[lv] : Array Value).size := by simp
      have Hnone := Lib.hid (show fewestBy pr ls = none from fewestBy_none (fun j hj => find_none_all (Hn.out j (by omega))))
      go_wp2_with (first | ((with_reducible refine q_store1 (t := 26) (g := g4) (off := 0) (v := .slice none 0 0) ?_ ?_ hCz size26 ?_ h01 ?_ ?_); rfl; rfl; rfl; rfl; intro Wt hBt hgrt; simp at hBt; have hEt := below_grown hE hgrt h40 hE.size))
      refine ret_c2 rfl rfl rfl (ld_own (xs := []) (B := 0) (cell_blk hBt) (OwnI.nil _ _)) ?_
      exact ⟨.slice none 0 0, .inl ⟨rfl, hEt, Hnone.out, rfl⟩⟩
end Go.Bp
end
