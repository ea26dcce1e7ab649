/- Texts R9 R10 Spec5 R11 Spec6 R12 Quiet Spec7 R13 of the proof, merged: contracts of functions of chapter 10, of the program and of the reference, and plain laws. -/
import Derived.BigQuiet
import Derived.Deep.QuietTactic
import Derived.Test.YthomnkgiaapljaaGreatDoorD01
section
set_option maxRecDepth 100000
set_option linter.unusedSimpArgs false
set_option linter.unusedVariables false
namespace Go.Bp
open Go.RowKit Go.Proofs
theorem Total_ok (cv lv : Value) (c : Code) (l : List Int) (w : World) (h : CodeV w cv c) (hl : Ints w lv l) (ho : c.Ok) (ht : c.TestOk l) :
    Calls Tryz.prog 63 #[cv, lv] w fun e w' => e = .returned (.int .i64 (c.total l)) ∧ Ext w w' :=
  Total_t cv lv c l w h hl (fun x hx => (ht.2 x hx).1) (fun k hk => by
    have := ho.total_le (l.take k)
    have h1 := ht.1
    rw [List.length_take] at this
    omega)
theorem size3 : (Tryz.prog.info? 3).map TypeInfo.size = some 1 := by kernel_rfl
set_option maxHeartbeats 2000000 in
theorem RPassed_any (cv lv : Value) (c : Code) (l : List Int) (w : World) (h : CodeV w cv c) (hl : Ints w lv l) (ho : c.Ok) (ht : c.TestOk l) :
    Calls Tryz.prog 51 #[cv, lv] w fun e w' => e = .returned (.bool (c.passed l)) ∧ Ext w w' := by
  obtain ⟨fv, mv, rfl, hF, hM, hW⟩ := h
  have hL := hl
  obtain ⟨A, cp, rfl, h1, h2, h3, h4⟩ := hl
  obtain ⟨A2, cp2, rfl, h12, h22, h32, h42⟩ := hF
  have hF : Faults w (.slice A2 c.faults.length cp2) c.faults := ⟨A2, cp2, rfl, h12, h22, h32, h42⟩
  unfold maxLen at h2 h22
  clear h3 h32
  have hE := Ext.refl w
  have HW := Lib.hid hW
  have t1 := ho.thing1
  have t9 := ho.thing9
  have hn6 := ho.nf2
  have hl12 := ht.1
  have hbF : c.faults.length ≤ 1000000 ∧ c.man.length ≤ 1000000 := by have := ho.nf2; have := ho.nm; omega
  have HbF := Lib.hid hbF
  have Ho := Lib.hid ho
  have Ht := Lib.hid ht
  have hth : c.things = c.faults.length + c.man.length := rfl
  have Hth := Lib.hid hth
  clear hW hbF ho ht hth
  go_enter Tryz.func51, Tryz.ntmps51
  go_wp2_with (first | (go_at_call 97; ((with_reducible refine (things_any _ c _ (by exact CodeV.of hF hM HW.out) HbF.out).mono ?_); rintro e WcT ⟨rfl, hEcT⟩; (try replace hEcT := Ext.undrew hEcT); (try replace hE := hE.trans hEcT); (try replace hF := hF.ext hEcT); (try replace hM := hM.ext hEcT); (try replace hL := hL.ext hEcT); (try replace hB2 := hB2.ext hEcT); (try replace hb2_0 := Ext.cell_some hEcT hb2_0); (try replace hb2_1 := Ext.cell_some hEcT hb2_1); (try replace hb2_2 := Ext.cell_some hEcT hb2_2))) | (((with_reducible refine q_make (d := some 11) Tryz.underlying26 ti3 rfl (n := c.things) (by omega) (by omega) ?_ ?_ ?_); rfl; rfl; intro WM gM hEM hBM hgM; rw [← cntArr_nil] at hBM)) | ((with_reducible refine q_box (d := some 2) ?_); intro W2 g2 hE2 hB2 hg2; simp [Act.eval, Act.put, Value.cells] at hB2; (try replace hE := hE.trans hE2); (try replace hF := hF.ext hE2); (try replace hM := hM.ext hE2); (try replace hL := hL.ext hE2); (try replace hB2 := hB2.ext hE2); (try replace hb2_0 := Ext.cell_some hE2 hb2_0); (try replace hb2_1 := Ext.cell_some hE2 hb2_1); (try replace hb2_2 := Ext.cell_some hE2 hb2_2); have hb2_0 := hB2.cell 0; have hb2_1 := hB2.cell 1; have hb2_2 := hB2.cell 2; simp at hb2_0 hb2_1 hb2_2; clear hE2))
  go_loopw [6, 7] (fun i _ wr => Ext WcT wr ∧ ∃ k : Nat, k ≤ l.length ∧ i = .int .i64 k ∧ Blk wr gM 3 (cntArr c.things (l.take k))) (fun i _ _ => l.length - (intOf i).toNat)
  case atStart => exact ⟨hEM, 0, by omega, rfl, by simpa using hBM⟩
  case round =>
    obtain ⟨hEr, k, hk, rfl, hBk⟩ := hrel
    have hgs : WcT.heap.size ≤ wr.heap.size := hEr.size
    clear hBM
    by_cases hlt : k < l.length
    · obtain ⟨ad, rfl, hc⟩ := h4 (by omega)
      obtain ⟨hj0, hj1⟩ := Ht.out.at hlt
      obtain ⟨j, hj⟩ := Int.eq_ofNat_of_zero_le hj0
      have hjt : j < c.things := by omega
      have e1 := ((hc.ext hE).ext hEr).i hlt
      rw [hj] at e1
      have e2 := hBk.cell j
      rw [cntArr_get _ hjt] at e2
      have hcn := Code.cnt_le (l.take k) j
      have hcn2 : Code.cnt (l.take k) j ≤ 12 := by rw [List.length_take] at hcn; omega
      have hs := cntArr_snoc (n := c.things) (l.take k) hjt
      rw [← hj, ← take_snoc _ hlt] at hs
      have Hs := Lib.hid hs
      have Hsz := Lib.hid (cntArr_size c.things (l.take k))
      clear hs h4 hc hcn hj hj0 hj1
      go_wp2_with ((with_reducible refine q_store1 (d := none) (off := j) (v := .int .i64 ((Code.cnt (l.take k) j : Int) + 1)) ?_ ?_ hBk size3 ?_ ?_ ?_ ?_); rfl; rfl; rfl; (rw [Hsz.out]; exact hjt); rfl; intro WS hBS hgr; replace hEr := below_grown hEr hgr hgM hgs)
      go_roundw
      case rel => exact ⟨hEr, k + 1, by omega, by go_num, by rw [← Hs.out]; exact hBS⟩
      case measure => simp [intOf]; omega
    · obtain rfl : k = l.length := by omega
      rw [List.take_length] at hBk
      have hgW : Ext w wr := hE.trans hEr
      have kF := h42
      replace hF := hF.ext hEr
      replace hM := hM.ext hEr
      replace hL := hL.ext hEr
      replace hb2_0 := Ext.cell_some hEr hb2_0
      replace hb2_1 := Ext.cell_some hEr hb2_1
      replace hb2_2 := Ext.cell_some hEr hb2_2
      clear hE hB2
      go_wp2
      obtain ⟨Wl, hWl⟩ : ∃ W, W = wr := ⟨_, rfl⟩
      subst hWl
      go_loopw [8] (fun i wr => Ext Wl wr ∧ ∃ k : Nat, k ≤ c.things ∧ i = .int .i64 k ∧ ∀ j, j < k → c.fine l j = true) (fun i _ => c.things - (intOf i).toNat)
      case atStart => exact ⟨Ext.refl _, 0, by omega, rfl, by omega⟩
      case round =>
        obtain ⟨hEs, k, hk, rfl, hfi⟩ := hrel
        have Hfi := Lib.hid hfi
        clear hfi h4
        have hE := hgW.trans hEs
        replace hF := hF.ext hEs
        replace hM := hM.ext hEs
        replace hL := hL.ext hEs
        replace hb2_0 := Ext.cell_some hEs hb2_0
        replace hb2_1 := Ext.cell_some hEs hb2_1
        replace hb2_2 := Ext.cell_some hEs hb2_2
        by_cases hlt : k < c.things
        · have e2 := (hBk.ext hEs).cell k
          rw [cntArr_get _ hlt] at e2
          clear hBk
          by_cases hkf : k < c.faults.length
          · obtain ⟨ad2, rfl, hc2⟩ := kF (by omega)
            have e3 := (hc2.ext hE).f2 hkf
            have d1 : decide (c.faults.length ≤ k) = false := by simp; omega
            have d2 : decide (k < c.faults.length) = true := by simp; omega
            by_cases hf : (Code.cnt l k : Int) ≤ c.faults[k].limit
            · have d3 : decide (c.faults[k].limit < (Code.cnt l k : Int)) = false := by simp; omega
              have hfine : c.fine l k = true := by rw [Code.fine_f hkf]; simp; exact hf
              have Hfine := Lib.hid hfine
              clear hfine kF hc2
              go_wp2_with fail
              go_quiet (fail)
              go_wp2
              go_roundw
              case rel => exact ⟨hEs.drewN _, k + 1, by omega, by go_num, fun j hj => by by_cases e : j = k; · rw [e]; exact Hfine.out
                                                                                         · exact Hfi.out j (by omega)⟩
              case measure => simp [intOf]; omega
            · have d3 : decide (c.faults[k].limit < (Code.cnt l k : Int)) = true := by simp; omega
              have hfine : c.fine l k = false := by rw [Code.fine_f hkf]; simp; omega
              have Hfine := Lib.hid (Code.passed_no hlt hfine)
              clear hfine kF hc2
              go_wp2_with fail
              go_quiet (fail)
              go_wp2
              go_ret
              exact ⟨ret_b Hfine.out.symm, hE.drewN _⟩
          · have d1 : decide (c.faults.length ≤ k) = true := by simp; omega
            have d2 : decide (k < c.faults.length) = false := by simp; omega
            clear kF
            by_cases hf : Code.cnt l k = 0
            · have d3 : ((Code.cnt l k : Int) == 0) = true := by simp [hf]
              have hfine : c.fine l k = false := by rw [Code.fine_m hkf]; simp [hf]
              have Hfine := Lib.hid (Code.passed_no hlt hfine)
              clear hfine hf
              go_wp2_with fail
              go_quiet (fail)
              go_wp2
              go_ret
              exact ⟨ret_b Hfine.out.symm, hE.drewN _⟩
            · have d3 : ((Code.cnt l k : Int) == 0) = false := by simp; omega
              have hfine : c.fine l k = true := by rw [Code.fine_m hkf]; simp [hf]
              have Hfine := Lib.hid hfine
              clear hfine
              go_wp2_with fail
              go_quiet (fail)
              go_wp2
              go_roundw
              case rel => exact ⟨hEs.drewN _, k + 1, by omega, by go_num, fun j hj => by by_cases e : j = k; · rw [e]; exact Hfine.out
                                                                                         · exact Hfi.out j (by omega)⟩
              case measure => simp [intOf]; omega
        · obtain rfl : k = c.things := by omega
          have hpf := Code.passed_fine (c := c) (l := l) (fun j hj => Hfi.out j hj)
          have Hpf := Lib.hid hpf
          clear hpf
          go_wp2_with fail
          go_region_held3 (fun w' => w'.cell? ⟨g2, 0, none⟩ = some (Value.slice A2 c.faults.length cp2) ∧ w'.cell? ⟨g2, 1, none⟩ = some (mv) ∧ w'.cell? ⟨g2, 2, none⟩ = some (.int .i64 c.all)) (simp [*]) ((first | (go_at_call 63; ((with_reducible refine (Total_ok _ _ c l _ (by first | exact CodeV.of hF hM HW.out | exact (CodeV.of hF hM HW.out).d) (by first | exact hL | exact (hL).d) Ho.out Ht.out).mono ?_); rintro e Wc2 ⟨rfl, hEc2⟩; (try replace hEc2 := Ext.undrew hEc2); (try replace hE := hE.trans hEc2); (try replace hB2 := hB2.ext hEc2); (try replace hF := hF.ext hEc2); (try replace hM := hM.ext hEc2); (try replace hL := hL.ext hEc2); (try replace hb2_0 := Ext.cell_some hEc2 hb2_0); (try replace hb2_1 := Ext.cell_some hEc2 hb2_1); (try replace hb2_2 := Ext.cell_some hEc2 hb2_2)))))
          go_wp2
          go_ret
          exact ⟨ret_b Hpf.out.symm, hE⟩
end Go.Bp
end
section
set_option maxRecDepth 100000
set_option linter.unusedSimpArgs false
set_option linter.unusedVariables false
namespace Go.Bp
open Go.RowKit Go.Proofs
def RetIBI (w : World) (x : Int × Bool × Int) (e : Ending) (w' : World) : Prop := e = .returned (.tuple #[.int .i64 x.1, .bool x.2.1, .int .i64 x.2.2]) ∧ Ext w w'
theorem retIBI_of {a c : Int} {b : Bool} {x : Int × Bool × Int} (h : x = (a, b, c)) : Ending.returned (.tuple #[.int .i64 a, .bool b, .int .i64 c]) = .returned (.tuple #[.int .i64 x.1, .bool x.2.1, .int .i64 x.2.2]) := by rw [h]
set_option maxHeartbeats 1000000 in
theorem Lost_any (sv : Value) (s : Sheet) (m : Nat) (w : World) (h : SheetV w sv s) (hm : s.lines = m) (hm2 : m ≤ 1000) :
    Calls Tryz.prog 47 #[sv] w (Ret w fun v w' => OwnI w.heap.size w' v s.lost) := by
  obtain ⟨kv, rfl, ⟨A, cp, rfl, h1, h2, h3, h4⟩⟩ := h
  have hlost : s.lost = lostTo s.kept m := by rw [lost_eq, hm]; simp
  have Hlost := Lib.hid hlost
  rw [hm]
  unfold maxLen at h2
  clear h3 hlost hm
  have hE := Ext.refl w
  go_enter Tryz.func47, Tryz.ntmps47
  go_wp2_with (first | ((with_reducible refine q_box (d := some 1) ?_); intro W1 g1 hE1 hB1 hg1; simp [Act.eval, Act.put, Value.cells] at hB1; (try replace hE := hE.trans hE1); (try replace hB1 := hB1.ext hE1); (try replace hb1_0 := Ext.cell_some hE1 hb1_0); (try replace hb1_1 := Ext.cell_some hE1 hb1_1); have hb1_0 := hB1.cell 0; have hb1_1 := hB1.cell 1; simp at hb1_0 hb1_1; clear hE1))
  have hB0 := hE.size
  have k0 := hb1_0; have k1 := hb1_1
  go_loopw [3, 4] (fun v i wr => Ext W1 wr ∧ ∃ k : Nat, k ≤ m ∧ i = .int .i64 ((k : Int) + 1) ∧ OwnI W1.heap.size wr v (lostTo s.kept k)) (fun _ i _ => m + 1 - (intOf i).toNat)
  case atStart => exact ⟨Ext.refl _, 0, by omega, rfl, OwnI.nil _ _⟩
  case round =>
    obtain ⟨hEr, k, hk, rfl, hO⟩ := hrel
    replace k0 := Ext.cell_some hEr k0
    replace k1 := Ext.cell_some hEr k1
    clear hb1_0 hb1_1 hB1
    have hlen := lostTo_len s.kept k
    by_cases hlt : k < m
    · go_wp2
      obtain ⟨Wl, hWl⟩ : ∃ W, W = wr := ⟨_, rfl⟩
      subst hWl
      go_loop [5, 6] (fun b j => ∃ i : Nat, i ≤ s.kept.length ∧ j = .int .i64 i ∧ b = .bool (keptB (s.kept.take i) ((k : Int) + 1))) (fun _ j => s.kept.length - (intOf j).toNat)
      case atStart => exact ⟨0, by omega, rfl, by simp [keptB]⟩
      case round =>
        obtain ⟨i, hi, rfl, rfl⟩ := hrel
        by_cases hli : i < s.kept.length
        · obtain ⟨ad, rfl, hc⟩ := h4 (by omega)
          have e1 := ((hc.ext hE).ext hEr).l0 hli
          have hs := keptB_snoc s.kept ((k : Int) + 1) hli
          have Hs := Lib.hid hs
          clear hs h4 hc
          by_cases hb : keptB (s.kept.take i) ((k : Int) + 1) = true
          · have Hb := Lib.hid hb
            go_wp2
            go_round
            case rel => exact ⟨i + 1, by omega, by go_num, by rw [Hs.out, Hb.out]; rfl⟩
            case measure => simp [intOf]; omega
          · simp only [Bool.not_eq_true] at hb
            have Hb := Lib.hid hb
            go_wp2
            go_round
            case rel => exact ⟨i + 1, by omega, by go_num, by rw [Hs.out, Hb.out, Bool.false_or]; rfl⟩
            case measure => simp [intOf]; omega
        · obtain rfl : i = s.kept.length := by omega
          have ht : s.kept.take s.kept.length = s.kept := List.take_length
          have hn := lostTo_succ s.kept k
          clear h4
          by_cases hb : keptB s.kept ((k : Int) + 1) = true
          · rw [if_pos hb] at hn
            have Hn := Lib.hid hn
            clear hn
            go_wp2
            go_roundw
            case rel => exact ⟨hEr, k + 1, by omega, by go_num, by rw [Hn.out]; exact hO⟩
            case measure => simp [intOf]; omega
          · rw [if_neg hb] at hn
            simp only [Bool.not_eq_true] at hb
            have Hn := Lib.hid hn
            clear hn
            go_wp2_with (first | ((with_reducible refine q_bsI (d := some 35) (n := (k : Int) + 1) ?_ ?_); rfl; intro W12 g12 hE12 hB12 hg12; replace hEr := hEr.trans hE12; replace hO := hO.ext hE12) | (refine q_appI (d := some 36) rfl hO rfl hB12 (by omega) (by have := hEr.size; omega) ?_; intro v' W13 hO' hmono hgr; replace hEr := hmono _ hEr))
            go_roundw
            case rel => exact ⟨hEr, k + 1, by omega, by go_num, by rw [Hn.out]; exact hO'⟩
            case measure => simp [intOf]; omega
    · go_wp2
      go_ret
      obtain rfl : k = m := by omega
      exact ⟨_, rfl, by rw [Hlost.out]; exact hO.base hB0, hE.trans hEr⟩
end Go.Bp
end
section
/- Plain Lean: the errors of sheets. -/
namespace Go.Bp
open Go.RowKit
namespace Code
variable {c : Code} {m : Int} {prev : Option Int} {x : Line}
theorem lineErr_no (h : inB x.no 1 m = false) : c.lineErr m prev x = 7 := by unfold lineErr; rw [if_pos h]
theorem lineErr_arg (h : inB x.no 1 m = true) (h2 : prev.any (fun y => decide (x.no ≤ y)) = true) : c.lineErr m prev x = 2 := by unfold lineErr; rw [if_neg (by simp [h]), if_pos h2]
theorem lineErr_none (h : inB x.no 1 m = true) (h2 : prev.any (fun y => decide (x.no ≤ y)) = false) (h3 : inB x.what 0 (c.things - 1) = false) : c.lineErr m prev x = 4 := by
  unfold lineErr; rw [if_neg (by simp [h]), if_neg (by simp only [h2]; decide), if_pos h3]
theorem lineErr_sum (h : inB x.no 1 m = true) (h2 : prev.any (fun y => decide (x.no ≤ y)) = false) (h3 : inB x.what 0 (c.things - 1) = true) (h4 : inB x.sum 0 240 = false) : c.lineErr m prev x = 7 := by
  unfold lineErr; rw [if_neg (by simp [h]), if_neg (by simp only [h2]; decide), if_neg (by simp [h3]), if_pos h4]
theorem lineErr_ok (h : inB x.no 1 m = true) (h2 : prev.any (fun y => decide (x.no ≤ y)) = false) (h3 : inB x.what 0 (c.things - 1) = true) (h4 : inB x.sum 0 240 = true) : c.lineErr m prev x = 0 := by
  unfold lineErr; rw [if_neg (by simp [h]), if_neg (by simp only [h2]; decide), if_neg (by simp [h3]), if_neg (by simp [h4])]
end Code
namespace Sheet
variable {c : Code} {s : Sheet}
theorem err_lines (h : inB s.lines 1 12 = false) : s.err c = 7 := by unfold err; rw [if_pos h]
theorem err_line (h : inB s.lines 1 12 = true) {e : Int} (he : e ≠ 0) (h2 : c.linesErr s.lines none s.kept = e) : s.err c = e := by
  unfold err; rw [if_neg (by simp [h]), h2, if_pos he]
theorem err_long (h : inB s.lines 1 12 = true) (h2 : c.linesErr s.lines none s.kept = 0) (h3 : ¬ s.lost.length ≤ 3) : s.err c = 3 := by
  unfold err; rw [if_neg (by simp [h]), if_neg (by simp [h2]), if_neg h3]
theorem err_ok (h : inB s.lines 1 12 = true) (h2 : c.linesErr s.lines none s.kept = 0) (h3 : s.lost.length ≤ 3) : s.err c = 0 := by
  unfold err; rw [if_neg (by simp [h]), if_neg (by simp [h2]), if_pos h3]
theorem asked_e (h : c.check.2.2 ≠ 0) : s.asked c = c.check.2.2 := by unfold asked; rw [if_pos h]
theorem asked_s (h : c.check.2.2 = 0) : s.asked c = s.err c := by unfold asked; rw [if_neg (by simp [h])]
end Sheet
/-- The step of linesErr, told of a line with an error, and of one without. -/
theorem linesErr_bad {c : Code} {m : Int} {l : List Line} {k : Nat} (hk : k < l.length) {e : Int} (h : c.lineErr m (prevNo l k) l[k] = e) (he : e ≠ 0)
    (hs : c.linesErr m none l = c.linesErr m (prevNo l k) (l.drop k)) : c.linesErr m none l = e := by
  rw [hs, linesErr_step c m l hk, h, if_pos he]
theorem linesErr_good {c : Code} {m : Int} {l : List Line} {k : Nat} (hk : k < l.length) (h : c.lineErr m (prevNo l k) l[k] = 0)
    (hs : c.linesErr m none l = c.linesErr m (prevNo l k) (l.drop k)) : c.linesErr m none l = c.linesErr m (prevNo l (k + 1)) (l.drop (k + 1)) := by
  rw [hs, linesErr_step c m l hk, if_neg (by simp [h])]
theorem linesErr_end {c : Code} {m : Int} {l : List Line} (hs : c.linesErr m none l = c.linesErr m (prevNo l l.length) (l.drop l.length)) : c.linesErr m none l = 0 := by
  rw [hs, List.drop_length]; rfl
theorem rising_bad1 {p : Int → Bool} {l : List Int} {k : Nat} (hk : k < l.length) (h : p l[k] = false) (hs : rising p l = risingFrom p (prevAt l k) (l.drop k)) : rising p l = 4 := by
  rw [hs, rising_at p l hk, if_pos h]
theorem rising_bad2 {p : Int → Bool} {l : List Int} {k : Nat} (hk : k < l.length) (h : p l[k] = true) (h2 : (prevAt l k).any (fun y => decide (l[k] ≤ y)) = true) (hs : rising p l = risingFrom p (prevAt l k) (l.drop k)) : rising p l = 2 := by
  rw [hs, rising_at p l hk, if_neg (by simp [h]), if_pos h2]
theorem rising_good {p : Int → Bool} {l : List Int} {k : Nat} (hk : k < l.length) (h : p l[k] = true) (h2 : (prevAt l k).any (fun y => decide (l[k] ≤ y)) = false) (hs : rising p l = risingFrom p (prevAt l k) (l.drop k)) :
    rising p l = risingFrom p (prevAt l (k + 1)) (l.drop (k + 1)) := by
  rw [hs, rising_at p l hk, if_neg (by simp [h]), if_neg (by simp only [h2]; decide)]
theorem rising_end {p : Int → Bool} {l : List Int} (hs : rising p l = risingFrom p (prevAt l l.length) (l.drop l.length)) : rising p l = 0 := by
  rw [hs, List.drop_length]; unfold risingFrom; rfl
theorem prevAt_none {l : List Int} {k : Nat} (h : ¬ 0 < k) : prevAt l k = none := by unfold prevAt; rw [if_pos (by omega)]
theorem prevNo_none {l : List Line} {k : Nat} (h : ¬ 0 < k) : prevNo l k = none := by unfold prevNo; rw [if_pos (by omega)]
end Go.Bp
end
section
set_option maxRecDepth 100000
set_option linter.unusedSimpArgs false
set_option linter.unusedVariables false
namespace Go.Bp
open Go.RowKit Go.Proofs
set_option maxHeartbeats 3000000 in
theorem RSheet_any (cv sv : Value) (c : Code) (s : Sheet) (w : World) (h : CodeV w cv c) (hsv : SheetV w sv s) (ho : c.Ok) :
    Calls Tryz.prog 96 #[cv, sv] w fun e w' => e = .returned (.int .i64 (s.err c)) ∧ Ext w w' := by
  obtain ⟨fv, mv, rfl, hF, hM, hW⟩ := h
  obtain ⟨kv, rfl, hK⟩ := hsv
  obtain ⟨A, cp, rfl, h1, h2, h3, h4⟩ := hK
  have hK : Lines w (.slice A s.kept.length cp) s.kept := ⟨A, cp, rfl, h1, h2, h3, h4⟩
  unfold maxLen at h2
  clear h3
  have hE := Ext.refl w
  have HW := Lib.hid hW
  have t1 := ho.thing1
  have t9 := ho.thing9
  have hbF : c.faults.length ≤ 1000000 ∧ c.man.length ≤ 1000000 := by have := ho.nf2; have := ho.nm; omega
  have HbF := Lib.hid hbF
  have hwr : IntKind.i64.wrap ((c.things : Int) - 1) = c.things - 1 := IntWalk.i64_in _ (by omega)
  clear hW hbF ho
  by_cases hln : inB s.lines 1 12 = true
  · have hlr := inB_t.1 hln
    go_enter Tryz.func96, Tryz.ntmps96
    go_wp2_with (first | ((go_at_call 56; refine (in_any _ _ _ _).mono ?_; rintro e w' ⟨rfl, rfl⟩)) | ((with_reducible refine q_box (d := some 2) ?_); intro W2 g2 hE2 hB2 hg2; simp [Act.eval, Act.put, Value.cells] at hB2; (try replace hE := hE.trans hE2); (try replace hF := hF.ext hE2); (try replace hM := hM.ext hE2); (try replace hK := hK.ext hE2); (try replace hB2 := hB2.ext hE2); (try replace hB3 := hB3.ext hE2); (try replace hb2_0 := Ext.cell_some hE2 hb2_0); (try replace hb2_1 := Ext.cell_some hE2 hb2_1); (try replace hb2_2 := Ext.cell_some hE2 hb2_2); (try replace hb3_0 := Ext.cell_some hE2 hb3_0); (try replace hb3_1 := Ext.cell_some hE2 hb3_1); have hb2_0 := hB2.cell 0; have hb2_1 := hB2.cell 1; have hb2_2 := hB2.cell 2; simp at hb2_0 hb2_1 hb2_2; clear hE2) | ((with_reducible refine q_box (d := some 3) ?_); intro W3 g3 hE3 hB3 hg3; simp [Act.eval, Act.put, Value.cells] at hB3; (try replace hE := hE.trans hE3); (try replace hF := hF.ext hE3); (try replace hM := hM.ext hE3); (try replace hK := hK.ext hE3); (try replace hB2 := hB2.ext hE3); (try replace hB3 := hB3.ext hE3); (try replace hb2_0 := Ext.cell_some hE3 hb2_0); (try replace hb2_1 := Ext.cell_some hE3 hb2_1); (try replace hb2_2 := Ext.cell_some hE3 hb2_2); (try replace hb3_0 := Ext.cell_some hE3 hb3_0); (try replace hb3_1 := Ext.cell_some hE3 hb3_1); have hb3_0 := hB3.cell 0; have hb3_1 := hB3.cell 1; simp at hb3_0 hb3_1; clear hE3))
    go_loopw [5] (fun i wr => Ext W3 wr ∧ ∃ k : Nat, k ≤ s.kept.length ∧ i = .int .i64 k ∧ c.linesErr s.lines none s.kept = c.linesErr s.lines (prevNo s.kept k) (s.kept.drop k)) (fun i _ => s.kept.length - (intOf i).toNat)
    case atStart => exact ⟨Ext.refl _, 0, by omega, rfl, rfl⟩
    case round =>
      obtain ⟨hEr, k, hk, rfl, hs⟩ := hrel
      (try replace hE := hE.trans hEr); (try replace hF := hF.ext hEr); (try replace hM := hM.ext hEr); (try replace hK := hK.ext hEr); (try replace hB2 := hB2.ext hEr); (try replace hB3 := hB3.ext hEr); (try replace hb2_0 := Ext.cell_some hEr hb2_0); (try replace hb2_1 := Ext.cell_some hEr hb2_1); (try replace hb2_2 := Ext.cell_some hEr hb2_2); (try replace hb3_0 := Ext.cell_some hEr hb3_0); (try replace hb3_1 := Ext.cell_some hEr hb3_1)
      have Hs := Lib.hid hs
      clear hs
      by_cases hlt : k < s.kept.length
      · obtain ⟨ad, rfl, hc⟩ := h4 (by omega)
        replace hc := hc.ext hE
        clear h4
        have eS := ld_l hc hlt
        by_cases p1 : inB s.kept[k].no 1 s.lines = true
        · by_cases p2 : (prevNo s.kept k).any (fun y => decide (s.kept[k].no ≤ y)) = true
          · have h0 : 0 < k := by
              rcases Nat.eq_zero_or_pos k with e | e
              · rw [prevNo_none (by omega)] at p2; cases p2
              · exact e
            have d0 : decide (0 < k) = true := by simp; omega
            have hk1 : k - 1 < s.kept.length := by omega
            have e2 := hc.l0 hk1
            rw [prevNo_pos _ h0 hlt] at p2
            have q1 : decide (s.kept[k].no ≤ s.kept[k - 1].no) = true := by simpa using p2
            have hr := Sheet.err_line hln (by decide) (linesErr_bad hlt (Code.lineErr_arg p1 (by rw [prevNo_pos _ h0 hlt]; exact p2)) (by decide) Hs.out)
            have Hr := Lib.hid hr
            clear hr p2 hc
            go_wp2_with (first | ((go_at_call 56; refine (in_any _ _ _ _).mono ?_; rintro e w' ⟨rfl, rfl⟩)) | ((with_reducible refine q_load (d := some 22) (hl := eS) ?_ ?_); rfl) | ((with_reducible refine q_newvar (e := 99) (u := 6) (v := .agg #[.int .i64 s.kept[k].no, .int .i64 s.kept[k].what, .int .i64 s.kept[k].sum]) ti99 ?_ ?_ ?_ ?_ ?_ ?_); (intro g; rfl); (intro g; rfl); rfl; rfl; (simp [Value.cells, Value.oneCell']); intro W6 g6 hE6 hB6 hg6; simp [Value.cells] at hB6; (try replace hE := hE.trans hE6); (try replace hEr := hEr.trans hE6); (try replace hF := hF.ext hE6); (try replace hM := hM.ext hE6); (try replace hK := hK.ext hE6); (try replace hB2 := hB2.ext hE6); (try replace hB3 := hB3.ext hE6); (try replace hb2_0 := Ext.cell_some hE6 hb2_0); (try replace hb2_1 := Ext.cell_some hE6 hb2_1); (try replace hb2_2 := Ext.cell_some hE6 hb2_2); (try replace hb3_0 := Ext.cell_some hE6 hb3_0); (try replace hb3_1 := Ext.cell_some hE6 hb3_1); (try replace e2 := Ext.cell_some hE6 e2); have hb6_0 := hB6.cell 0; have hb6_1 := hB6.cell 1; have hb6_2 := hB6.cell 2; simp at hb6_0 hb6_1 hb6_2; clear hE6) | ((with_reducible refine q_box (d := some 2) ?_); intro W2 g2 hE2 hB2 hg2; simp [Act.eval, Act.put, Value.cells] at hB2; (try replace hE := hE.trans hE2); (try replace hEr := hEr.trans hE2); (try replace hF := hF.ext hE2); (try replace hM := hM.ext hE2); (try replace hK := hK.ext hE2); (try replace hB2 := hB2.ext hE2); (try replace hB3 := hB3.ext hE2); (try replace hb2_0 := Ext.cell_some hE2 hb2_0); (try replace hb2_1 := Ext.cell_some hE2 hb2_1); (try replace hb2_2 := Ext.cell_some hE2 hb2_2); (try replace hb3_0 := Ext.cell_some hE2 hb3_0); (try replace hb3_1 := Ext.cell_some hE2 hb3_1); (try replace e2 := Ext.cell_some hE2 e2); have hb2_0 := hB2.cell 0; have hb2_1 := hB2.cell 1; have hb2_2 := hB2.cell 2; simp at hb2_0 hb2_1 hb2_2; clear hE2) | ((with_reducible refine q_box (d := some 3) ?_); intro W3 g3 hE3 hB3 hg3; simp [Act.eval, Act.put, Value.cells] at hB3; (try replace hE := hE.trans hE3); (try replace hEr := hEr.trans hE3); (try replace hF := hF.ext hE3); (try replace hM := hM.ext hE3); (try replace hK := hK.ext hE3); (try replace hB2 := hB2.ext hE3); (try replace hB3 := hB3.ext hE3); (try replace hb2_0 := Ext.cell_some hE3 hb2_0); (try replace hb2_1 := Ext.cell_some hE3 hb2_1); (try replace hb2_2 := Ext.cell_some hE3 hb2_2); (try replace hb3_0 := Ext.cell_some hE3 hb3_0); (try replace hb3_1 := Ext.cell_some hE3 hb3_1); (try replace e2 := Ext.cell_some hE3 e2); have hb3_0 := hB3.cell 0; have hb3_1 := hB3.cell 1; simp at hb3_0 hb3_1; clear hE3))
            go_quiet (fail)
            go_wp2
            go_ret
            exact ⟨ret_i Hr.out.symm, hE.drewN _⟩
          · simp only [Bool.not_eq_true] at p2
            have Hp2 := Lib.hid p2
            by_cases h0 : 0 < k
            · have d0 : decide (0 < k) = true := by simp; omega
              have hk1 : k - 1 < s.kept.length := by omega
              have e2 := hc.l0 hk1
              rw [prevNo_pos _ h0 hlt] at p2
              have q1 : decide (s.kept[k].no ≤ s.kept[k - 1].no) = false := by simpa using p2
              clear p2 hc
              by_cases p3 : inB s.kept[k].what 0 (c.things - 1) = true
              · by_cases p4 : inB s.kept[k].sum 0 240 = true
                · have hr := linesErr_good hlt (Code.lineErr_ok p1 Hp2.out p3 p4) Hs.out
                  have Hr := Lib.hid hr
                  clear hr
                  go_wp2_with (first | ((go_at_call 56; refine (in_any _ _ _ _).mono ?_; rintro e w' ⟨rfl, rfl⟩)) | ((with_reducible refine q_load (d := some 22) (hl := eS) ?_ ?_); rfl) | ((with_reducible refine q_newvar (e := 99) (u := 6) (v := .agg #[.int .i64 s.kept[k].no, .int .i64 s.kept[k].what, .int .i64 s.kept[k].sum]) ti99 ?_ ?_ ?_ ?_ ?_ ?_); (intro g; rfl); (intro g; rfl); rfl; rfl; (simp [Value.cells, Value.oneCell']); intro W6 g6 hE6 hB6 hg6; simp [Value.cells] at hB6; (try replace hE := hE.trans hE6); (try replace hEr := hEr.trans hE6); (try replace hF := hF.ext hE6); (try replace hM := hM.ext hE6); (try replace hK := hK.ext hE6); (try replace hB2 := hB2.ext hE6); (try replace hB3 := hB3.ext hE6); (try replace hB6 := hB6.ext hE6); (try replace hb2_0 := Ext.cell_some hE6 hb2_0); (try replace hb2_1 := Ext.cell_some hE6 hb2_1); (try replace hb2_2 := Ext.cell_some hE6 hb2_2); (try replace hb3_0 := Ext.cell_some hE6 hb3_0); (try replace hb3_1 := Ext.cell_some hE6 hb3_1); (try replace e2 := Ext.cell_some hE6 e2); (try replace hb6_0 := Ext.cell_some hE6 hb6_0); (try replace hb6_1 := Ext.cell_some hE6 hb6_1); (try replace hb6_2 := Ext.cell_some hE6 hb6_2); have hb6_0 := hB6.cell 0; have hb6_1 := hB6.cell 1; have hb6_2 := hB6.cell 2; simp at hb6_0 hb6_1 hb6_2; clear hE6) | ((with_reducible refine q_box (d := some 2) ?_); intro W2 g2 hE2 hB2 hg2; simp [Act.eval, Act.put, Value.cells] at hB2; (try replace hE := hE.trans hE2); (try replace hEr := hEr.trans hE2); (try replace hF := hF.ext hE2); (try replace hM := hM.ext hE2); (try replace hK := hK.ext hE2); (try replace hB2 := hB2.ext hE2); (try replace hB3 := hB3.ext hE2); (try replace hB6 := hB6.ext hE2); (try replace hb2_0 := Ext.cell_some hE2 hb2_0); (try replace hb2_1 := Ext.cell_some hE2 hb2_1); (try replace hb2_2 := Ext.cell_some hE2 hb2_2); (try replace hb3_0 := Ext.cell_some hE2 hb3_0); (try replace hb3_1 := Ext.cell_some hE2 hb3_1); (try replace e2 := Ext.cell_some hE2 e2); (try replace hb6_0 := Ext.cell_some hE2 hb6_0); (try replace hb6_1 := Ext.cell_some hE2 hb6_1); (try replace hb6_2 := Ext.cell_some hE2 hb6_2); have hb2_0 := hB2.cell 0; have hb2_1 := hB2.cell 1; have hb2_2 := hB2.cell 2; simp at hb2_0 hb2_1 hb2_2; clear hE2) | ((with_reducible refine q_box (d := some 3) ?_); intro W3 g3 hE3 hB3 hg3; simp [Act.eval, Act.put, Value.cells] at hB3; (try replace hE := hE.trans hE3); (try replace hEr := hEr.trans hE3); (try replace hF := hF.ext hE3); (try replace hM := hM.ext hE3); (try replace hK := hK.ext hE3); (try replace hB2 := hB2.ext hE3); (try replace hB3 := hB3.ext hE3); (try replace hB6 := hB6.ext hE3); (try replace hb2_0 := Ext.cell_some hE3 hb2_0); (try replace hb2_1 := Ext.cell_some hE3 hb2_1); (try replace hb2_2 := Ext.cell_some hE3 hb2_2); (try replace hb3_0 := Ext.cell_some hE3 hb3_0); (try replace hb3_1 := Ext.cell_some hE3 hb3_1); (try replace e2 := Ext.cell_some hE3 e2); (try replace hb6_0 := Ext.cell_some hE3 hb6_0); (try replace hb6_1 := Ext.cell_some hE3 hb6_1); (try replace hb6_2 := Ext.cell_some hE3 hb6_2); have hb3_0 := hB3.cell 0; have hb3_1 := hB3.cell 1; simp at hb3_0 hb3_1; clear hE3))
                  go_quiet (fail)
                  (try replace hE := hE.trans ((Ext.refl W6).drewN nq)); (try replace hEr := hEr.trans ((Ext.refl W6).drewN nq)); (try replace hF := hF.ext ((Ext.refl W6).drewN nq)); (try replace hM := hM.ext ((Ext.refl W6).drewN nq)); (try replace hK := hK.ext ((Ext.refl W6).drewN nq)); (try replace hB2 := hB2.ext ((Ext.refl W6).drewN nq)); (try replace hB3 := hB3.ext ((Ext.refl W6).drewN nq)); (try replace hB6 := hB6.ext ((Ext.refl W6).drewN nq)); (try replace hb2_0 := Ext.cell_some ((Ext.refl W6).drewN nq) hb2_0); (try replace hb2_1 := Ext.cell_some ((Ext.refl W6).drewN nq) hb2_1); (try replace hb2_2 := Ext.cell_some ((Ext.refl W6).drewN nq) hb2_2); (try replace hb3_0 := Ext.cell_some ((Ext.refl W6).drewN nq) hb3_0); (try replace hb3_1 := Ext.cell_some ((Ext.refl W6).drewN nq) hb3_1); (try replace e2 := Ext.cell_some ((Ext.refl W6).drewN nq) e2); (try replace hb6_0 := Ext.cell_some ((Ext.refl W6).drewN nq) hb6_0); (try replace hb6_1 := Ext.cell_some ((Ext.refl W6).drewN nq) hb6_1); (try replace hb6_2 := Ext.cell_some ((Ext.refl W6).drewN nq) hb6_2)
                  generalize World.drewN W6 nq = WqW6 at *
                  go_wp2_with fail
                  go_region_held3 (fun w' => w'.cell? ⟨g2, 0, none⟩ = some (fv) ∧ w'.cell? ⟨g2, 1, none⟩ = some (mv) ∧ w'.cell? ⟨g2, 2, none⟩ = some (.int .i64 c.all) ∧ w'.cell? ((⟨g6, 1, none⟩)) = some (.int .i64 s.kept[k].what)) (simp [*]) ((first | (go_at_call 97; ((with_reducible refine (things_any _ c _ (by first | exact CodeV.of hF hM HW.out | exact (CodeV.of hF hM HW.out).d) HbF.out).mono ?_); rintro e Wc1 ⟨rfl, hEc1⟩; (try replace hEc1 := Ext.undrew hEc1); (try replace hE := hE.trans hEc1); (try replace hEr := hEr.trans hEc1); (try replace hF := hF.ext hEc1); (try replace hM := hM.ext hEc1); (try replace hK := hK.ext hEc1); (try replace hB2 := hB2.ext hEc1); (try replace hB3 := hB3.ext hEc1); (try replace hB6 := hB6.ext hEc1); (try replace hb2_0 := Ext.cell_some hEc1 hb2_0); (try replace hb2_1 := Ext.cell_some hEc1 hb2_1); (try replace hb2_2 := Ext.cell_some hEc1 hb2_2); (try replace hb3_0 := Ext.cell_some hEc1 hb3_0); (try replace hb3_1 := Ext.cell_some hEc1 hb3_1); (try replace e2 := Ext.cell_some hEc1 e2); (try replace hb6_0 := Ext.cell_some hEc1 hb6_0); (try replace hb6_1 := Ext.cell_some hEc1 hb6_1); (try replace hb6_2 := Ext.cell_some hEc1 hb6_2))) | ((go_at_call 56; refine (in_any _ _ _ _).mono ?_; rintro e w' ⟨rfl, rfl⟩))))
                  go_wp2_with (go_at_call 56; refine (in_any _ _ _ _).mono ?_; rintro e w' ⟨rfl, rfl⟩)
                  go_roundw
                  case rel => exact ⟨hEr, k + 1, by omega, by go_num, Hr.out⟩
                  case measure => simp [intOf]; omega
                · simp only [Bool.not_eq_true] at p4
                  have hr := Sheet.err_line hln (by decide) (linesErr_bad hlt (Code.lineErr_sum p1 Hp2.out p3 p4) (by decide) Hs.out)
                  have Hr := Lib.hid hr
                  clear hr
                  go_wp2_with (first | ((go_at_call 56; refine (in_any _ _ _ _).mono ?_; rintro e w' ⟨rfl, rfl⟩)) | ((with_reducible refine q_load (d := some 22) (hl := eS) ?_ ?_); rfl) | ((with_reducible refine q_newvar (e := 99) (u := 6) (v := .agg #[.int .i64 s.kept[k].no, .int .i64 s.kept[k].what, .int .i64 s.kept[k].sum]) ti99 ?_ ?_ ?_ ?_ ?_ ?_); (intro g; rfl); (intro g; rfl); rfl; rfl; (simp [Value.cells, Value.oneCell']); intro W6 g6 hE6 hB6 hg6; simp [Value.cells] at hB6; (try replace hE := hE.trans hE6); (try replace hEr := hEr.trans hE6); (try replace hF := hF.ext hE6); (try replace hM := hM.ext hE6); (try replace hK := hK.ext hE6); (try replace hB2 := hB2.ext hE6); (try replace hB3 := hB3.ext hE6); (try replace hB6 := hB6.ext hE6); (try replace hb2_0 := Ext.cell_some hE6 hb2_0); (try replace hb2_1 := Ext.cell_some hE6 hb2_1); (try replace hb2_2 := Ext.cell_some hE6 hb2_2); (try replace hb3_0 := Ext.cell_some hE6 hb3_0); (try replace hb3_1 := Ext.cell_some hE6 hb3_1); (try replace e2 := Ext.cell_some hE6 e2); (try replace hb6_0 := Ext.cell_some hE6 hb6_0); (try replace hb6_1 := Ext.cell_some hE6 hb6_1); (try replace hb6_2 := Ext.cell_some hE6 hb6_2); have hb6_0 := hB6.cell 0; have hb6_1 := hB6.cell 1; have hb6_2 := hB6.cell 2; simp at hb6_0 hb6_1 hb6_2; clear hE6) | ((with_reducible refine q_box (d := some 2) ?_); intro W2 g2 hE2 hB2 hg2; simp [Act.eval, Act.put, Value.cells] at hB2; (try replace hE := hE.trans hE2); (try replace hEr := hEr.trans hE2); (try replace hF := hF.ext hE2); (try replace hM := hM.ext hE2); (try replace hK := hK.ext hE2); (try replace hB2 := hB2.ext hE2); (try replace hB3 := hB3.ext hE2); (try replace hB6 := hB6.ext hE2); (try replace hb2_0 := Ext.cell_some hE2 hb2_0); (try replace hb2_1 := Ext.cell_some hE2 hb2_1); (try replace hb2_2 := Ext.cell_some hE2 hb2_2); (try replace hb3_0 := Ext.cell_some hE2 hb3_0); (try replace hb3_1 := Ext.cell_some hE2 hb3_1); (try replace e2 := Ext.cell_some hE2 e2); (try replace hb6_0 := Ext.cell_some hE2 hb6_0); (try replace hb6_1 := Ext.cell_some hE2 hb6_1); (try replace hb6_2 := Ext.cell_some hE2 hb6_2); have hb2_0 := hB2.cell 0; have hb2_1 := hB2.cell 1; have hb2_2 := hB2.cell 2; simp at hb2_0 hb2_1 hb2_2; clear hE2) | ((with_reducible refine q_box (d := some 3) ?_); intro W3 g3 hE3 hB3 hg3; simp [Act.eval, Act.put, Value.cells] at hB3; (try replace hE := hE.trans hE3); (try replace hEr := hEr.trans hE3); (try replace hF := hF.ext hE3); (try replace hM := hM.ext hE3); (try replace hK := hK.ext hE3); (try replace hB2 := hB2.ext hE3); (try replace hB3 := hB3.ext hE3); (try replace hB6 := hB6.ext hE3); (try replace hb2_0 := Ext.cell_some hE3 hb2_0); (try replace hb2_1 := Ext.cell_some hE3 hb2_1); (try replace hb2_2 := Ext.cell_some hE3 hb2_2); (try replace hb3_0 := Ext.cell_some hE3 hb3_0); (try replace hb3_1 := Ext.cell_some hE3 hb3_1); (try replace e2 := Ext.cell_some hE3 e2); (try replace hb6_0 := Ext.cell_some hE3 hb6_0); (try replace hb6_1 := Ext.cell_some hE3 hb6_1); (try replace hb6_2 := Ext.cell_some hE3 hb6_2); have hb3_0 := hB3.cell 0; have hb3_1 := hB3.cell 1; simp at hb3_0 hb3_1; clear hE3))
                  go_quiet (fail)
                  (try replace hE := hE.trans ((Ext.refl W6).drewN nq)); (try replace hEr := hEr.trans ((Ext.refl W6).drewN nq)); (try replace hF := hF.ext ((Ext.refl W6).drewN nq)); (try replace hM := hM.ext ((Ext.refl W6).drewN nq)); (try replace hK := hK.ext ((Ext.refl W6).drewN nq)); (try replace hB2 := hB2.ext ((Ext.refl W6).drewN nq)); (try replace hB3 := hB3.ext ((Ext.refl W6).drewN nq)); (try replace hB6 := hB6.ext ((Ext.refl W6).drewN nq)); (try replace hb2_0 := Ext.cell_some ((Ext.refl W6).drewN nq) hb2_0); (try replace hb2_1 := Ext.cell_some ((Ext.refl W6).drewN nq) hb2_1); (try replace hb2_2 := Ext.cell_some ((Ext.refl W6).drewN nq) hb2_2); (try replace hb3_0 := Ext.cell_some ((Ext.refl W6).drewN nq) hb3_0); (try replace hb3_1 := Ext.cell_some ((Ext.refl W6).drewN nq) hb3_1); (try replace e2 := Ext.cell_some ((Ext.refl W6).drewN nq) e2); (try replace hb6_0 := Ext.cell_some ((Ext.refl W6).drewN nq) hb6_0); (try replace hb6_1 := Ext.cell_some ((Ext.refl W6).drewN nq) hb6_1); (try replace hb6_2 := Ext.cell_some ((Ext.refl W6).drewN nq) hb6_2)
                  generalize World.drewN W6 nq = WqW6 at *
                  go_wp2_with fail
                  go_region_held3 (fun w' => w'.cell? ⟨g2, 0, none⟩ = some (fv) ∧ w'.cell? ⟨g2, 1, none⟩ = some (mv) ∧ w'.cell? ⟨g2, 2, none⟩ = some (.int .i64 c.all) ∧ w'.cell? ((⟨g6, 1, none⟩)) = some (.int .i64 s.kept[k].what)) (simp [*]) ((first | (go_at_call 97; ((with_reducible refine (things_any _ c _ (by first | exact CodeV.of hF hM HW.out | exact (CodeV.of hF hM HW.out).d) HbF.out).mono ?_); rintro e Wc2 ⟨rfl, hEc2⟩; (try replace hEc2 := Ext.undrew hEc2); (try replace hE := hE.trans hEc2); (try replace hEr := hEr.trans hEc2); (try replace hF := hF.ext hEc2); (try replace hM := hM.ext hEc2); (try replace hK := hK.ext hEc2); (try replace hB2 := hB2.ext hEc2); (try replace hB3 := hB3.ext hEc2); (try replace hB6 := hB6.ext hEc2); (try replace hb2_0 := Ext.cell_some hEc2 hb2_0); (try replace hb2_1 := Ext.cell_some hEc2 hb2_1); (try replace hb2_2 := Ext.cell_some hEc2 hb2_2); (try replace hb3_0 := Ext.cell_some hEc2 hb3_0); (try replace hb3_1 := Ext.cell_some hEc2 hb3_1); (try replace e2 := Ext.cell_some hEc2 e2); (try replace hb6_0 := Ext.cell_some hEc2 hb6_0); (try replace hb6_1 := Ext.cell_some hEc2 hb6_1); (try replace hb6_2 := Ext.cell_some hEc2 hb6_2))) | ((go_at_call 56; refine (in_any _ _ _ _).mono ?_; rintro e w' ⟨rfl, rfl⟩))))
                  go_wp2_with (go_at_call 56; refine (in_any _ _ _ _).mono ?_; rintro e w' ⟨rfl, rfl⟩)
                  go_ret
                  exact ⟨ret_i Hr.out.symm, hE⟩
              · simp only [Bool.not_eq_true] at p3
                have hr := Sheet.err_line hln (by decide) (linesErr_bad hlt (Code.lineErr_none p1 Hp2.out p3) (by decide) Hs.out)
                have Hr := Lib.hid hr
                clear hr
                go_wp2_with (first | ((go_at_call 56; refine (in_any _ _ _ _).mono ?_; rintro e w' ⟨rfl, rfl⟩)) | ((with_reducible refine q_load (d := some 22) (hl := eS) ?_ ?_); rfl) | ((with_reducible refine q_newvar (e := 99) (u := 6) (v := .agg #[.int .i64 s.kept[k].no, .int .i64 s.kept[k].what, .int .i64 s.kept[k].sum]) ti99 ?_ ?_ ?_ ?_ ?_ ?_); (intro g; rfl); (intro g; rfl); rfl; rfl; (simp [Value.cells, Value.oneCell']); intro W6 g6 hE6 hB6 hg6; simp [Value.cells] at hB6; (try replace hE := hE.trans hE6); (try replace hEr := hEr.trans hE6); (try replace hF := hF.ext hE6); (try replace hM := hM.ext hE6); (try replace hK := hK.ext hE6); (try replace hB2 := hB2.ext hE6); (try replace hB3 := hB3.ext hE6); (try replace hB6 := hB6.ext hE6); (try replace hb2_0 := Ext.cell_some hE6 hb2_0); (try replace hb2_1 := Ext.cell_some hE6 hb2_1); (try replace hb2_2 := Ext.cell_some hE6 hb2_2); (try replace hb3_0 := Ext.cell_some hE6 hb3_0); (try replace hb3_1 := Ext.cell_some hE6 hb3_1); (try replace e2 := Ext.cell_some hE6 e2); (try replace hb6_0 := Ext.cell_some hE6 hb6_0); (try replace hb6_1 := Ext.cell_some hE6 hb6_1); (try replace hb6_2 := Ext.cell_some hE6 hb6_2); have hb6_0 := hB6.cell 0; have hb6_1 := hB6.cell 1; have hb6_2 := hB6.cell 2; simp at hb6_0 hb6_1 hb6_2; clear hE6) | ((with_reducible refine q_box (d := some 2) ?_); intro W2 g2 hE2 hB2 hg2; simp [Act.eval, Act.put, Value.cells] at hB2; (try replace hE := hE.trans hE2); (try replace hEr := hEr.trans hE2); (try replace hF := hF.ext hE2); (try replace hM := hM.ext hE2); (try replace hK := hK.ext hE2); (try replace hB2 := hB2.ext hE2); (try replace hB3 := hB3.ext hE2); (try replace hB6 := hB6.ext hE2); (try replace hb2_0 := Ext.cell_some hE2 hb2_0); (try replace hb2_1 := Ext.cell_some hE2 hb2_1); (try replace hb2_2 := Ext.cell_some hE2 hb2_2); (try replace hb3_0 := Ext.cell_some hE2 hb3_0); (try replace hb3_1 := Ext.cell_some hE2 hb3_1); (try replace e2 := Ext.cell_some hE2 e2); (try replace hb6_0 := Ext.cell_some hE2 hb6_0); (try replace hb6_1 := Ext.cell_some hE2 hb6_1); (try replace hb6_2 := Ext.cell_some hE2 hb6_2); have hb2_0 := hB2.cell 0; have hb2_1 := hB2.cell 1; have hb2_2 := hB2.cell 2; simp at hb2_0 hb2_1 hb2_2; clear hE2) | ((with_reducible refine q_box (d := some 3) ?_); intro W3 g3 hE3 hB3 hg3; simp [Act.eval, Act.put, Value.cells] at hB3; (try replace hE := hE.trans hE3); (try replace hEr := hEr.trans hE3); (try replace hF := hF.ext hE3); (try replace hM := hM.ext hE3); (try replace hK := hK.ext hE3); (try replace hB2 := hB2.ext hE3); (try replace hB3 := hB3.ext hE3); (try replace hB6 := hB6.ext hE3); (try replace hb2_0 := Ext.cell_some hE3 hb2_0); (try replace hb2_1 := Ext.cell_some hE3 hb2_1); (try replace hb2_2 := Ext.cell_some hE3 hb2_2); (try replace hb3_0 := Ext.cell_some hE3 hb3_0); (try replace hb3_1 := Ext.cell_some hE3 hb3_1); (try replace e2 := Ext.cell_some hE3 e2); (try replace hb6_0 := Ext.cell_some hE3 hb6_0); (try replace hb6_1 := Ext.cell_some hE3 hb6_1); (try replace hb6_2 := Ext.cell_some hE3 hb6_2); have hb3_0 := hB3.cell 0; have hb3_1 := hB3.cell 1; simp at hb3_0 hb3_1; clear hE3))
                go_quiet (fail)
                (try replace hE := hE.trans ((Ext.refl W6).drewN nq)); (try replace hEr := hEr.trans ((Ext.refl W6).drewN nq)); (try replace hF := hF.ext ((Ext.refl W6).drewN nq)); (try replace hM := hM.ext ((Ext.refl W6).drewN nq)); (try replace hK := hK.ext ((Ext.refl W6).drewN nq)); (try replace hB2 := hB2.ext ((Ext.refl W6).drewN nq)); (try replace hB3 := hB3.ext ((Ext.refl W6).drewN nq)); (try replace hB6 := hB6.ext ((Ext.refl W6).drewN nq)); (try replace hb2_0 := Ext.cell_some ((Ext.refl W6).drewN nq) hb2_0); (try replace hb2_1 := Ext.cell_some ((Ext.refl W6).drewN nq) hb2_1); (try replace hb2_2 := Ext.cell_some ((Ext.refl W6).drewN nq) hb2_2); (try replace hb3_0 := Ext.cell_some ((Ext.refl W6).drewN nq) hb3_0); (try replace hb3_1 := Ext.cell_some ((Ext.refl W6).drewN nq) hb3_1); (try replace e2 := Ext.cell_some ((Ext.refl W6).drewN nq) e2); (try replace hb6_0 := Ext.cell_some ((Ext.refl W6).drewN nq) hb6_0); (try replace hb6_1 := Ext.cell_some ((Ext.refl W6).drewN nq) hb6_1); (try replace hb6_2 := Ext.cell_some ((Ext.refl W6).drewN nq) hb6_2)
                generalize World.drewN W6 nq = WqW6 at *
                go_wp2_with fail
                go_region_held3 (fun w' => w'.cell? ⟨g2, 0, none⟩ = some (fv) ∧ w'.cell? ⟨g2, 1, none⟩ = some (mv) ∧ w'.cell? ⟨g2, 2, none⟩ = some (.int .i64 c.all) ∧ w'.cell? ((⟨g6, 1, none⟩)) = some (.int .i64 s.kept[k].what)) (simp [*]) ((first | (go_at_call 97; ((with_reducible refine (things_any _ c _ (by first | exact CodeV.of hF hM HW.out | exact (CodeV.of hF hM HW.out).d) HbF.out).mono ?_); rintro e Wc3 ⟨rfl, hEc3⟩; (try replace hEc3 := Ext.undrew hEc3); (try replace hE := hE.trans hEc3); (try replace hEr := hEr.trans hEc3); (try replace hF := hF.ext hEc3); (try replace hM := hM.ext hEc3); (try replace hK := hK.ext hEc3); (try replace hB2 := hB2.ext hEc3); (try replace hB3 := hB3.ext hEc3); (try replace hB6 := hB6.ext hEc3); (try replace hb2_0 := Ext.cell_some hEc3 hb2_0); (try replace hb2_1 := Ext.cell_some hEc3 hb2_1); (try replace hb2_2 := Ext.cell_some hEc3 hb2_2); (try replace hb3_0 := Ext.cell_some hEc3 hb3_0); (try replace hb3_1 := Ext.cell_some hEc3 hb3_1); (try replace e2 := Ext.cell_some hEc3 e2); (try replace hb6_0 := Ext.cell_some hEc3 hb6_0); (try replace hb6_1 := Ext.cell_some hEc3 hb6_1); (try replace hb6_2 := Ext.cell_some hEc3 hb6_2))) | ((go_at_call 56; refine (in_any _ _ _ _).mono ?_; rintro e w' ⟨rfl, rfl⟩))))
                go_wp2
                go_ret
                exact ⟨ret_i Hr.out.symm, hE⟩
            · have d0 : decide (0 < k) = false := by simp; omega
              clear p2 hc
              by_cases p3 : inB s.kept[k].what 0 (c.things - 1) = true
              · by_cases p4 : inB s.kept[k].sum 0 240 = true
                · have hr := linesErr_good hlt (Code.lineErr_ok p1 Hp2.out p3 p4) Hs.out
                  have Hr := Lib.hid hr
                  clear hr
                  go_wp2_with (first | ((go_at_call 56; refine (in_any _ _ _ _).mono ?_; rintro e w' ⟨rfl, rfl⟩)) | ((with_reducible refine q_load (d := some 22) (hl := eS) ?_ ?_); rfl) | ((with_reducible refine q_newvar (e := 99) (u := 6) (v := .agg #[.int .i64 s.kept[k].no, .int .i64 s.kept[k].what, .int .i64 s.kept[k].sum]) ti99 ?_ ?_ ?_ ?_ ?_ ?_); (intro g; rfl); (intro g; rfl); rfl; rfl; (simp [Value.cells, Value.oneCell']); intro W6 g6 hE6 hB6 hg6; simp [Value.cells] at hB6; (try replace hE := hE.trans hE6); (try replace hEr := hEr.trans hE6); (try replace hF := hF.ext hE6); (try replace hM := hM.ext hE6); (try replace hK := hK.ext hE6); (try replace hB2 := hB2.ext hE6); (try replace hB3 := hB3.ext hE6); (try replace hB6 := hB6.ext hE6); (try replace hb2_0 := Ext.cell_some hE6 hb2_0); (try replace hb2_1 := Ext.cell_some hE6 hb2_1); (try replace hb2_2 := Ext.cell_some hE6 hb2_2); (try replace hb3_0 := Ext.cell_some hE6 hb3_0); (try replace hb3_1 := Ext.cell_some hE6 hb3_1); (try replace e2 := Ext.cell_some hE6 e2); (try replace hb6_0 := Ext.cell_some hE6 hb6_0); (try replace hb6_1 := Ext.cell_some hE6 hb6_1); (try replace hb6_2 := Ext.cell_some hE6 hb6_2); have hb6_0 := hB6.cell 0; have hb6_1 := hB6.cell 1; have hb6_2 := hB6.cell 2; simp at hb6_0 hb6_1 hb6_2; clear hE6) | ((with_reducible refine q_box (d := some 2) ?_); intro W2 g2 hE2 hB2 hg2; simp [Act.eval, Act.put, Value.cells] at hB2; (try replace hE := hE.trans hE2); (try replace hEr := hEr.trans hE2); (try replace hF := hF.ext hE2); (try replace hM := hM.ext hE2); (try replace hK := hK.ext hE2); (try replace hB2 := hB2.ext hE2); (try replace hB3 := hB3.ext hE2); (try replace hB6 := hB6.ext hE2); (try replace hb2_0 := Ext.cell_some hE2 hb2_0); (try replace hb2_1 := Ext.cell_some hE2 hb2_1); (try replace hb2_2 := Ext.cell_some hE2 hb2_2); (try replace hb3_0 := Ext.cell_some hE2 hb3_0); (try replace hb3_1 := Ext.cell_some hE2 hb3_1); (try replace e2 := Ext.cell_some hE2 e2); (try replace hb6_0 := Ext.cell_some hE2 hb6_0); (try replace hb6_1 := Ext.cell_some hE2 hb6_1); (try replace hb6_2 := Ext.cell_some hE2 hb6_2); have hb2_0 := hB2.cell 0; have hb2_1 := hB2.cell 1; have hb2_2 := hB2.cell 2; simp at hb2_0 hb2_1 hb2_2; clear hE2) | ((with_reducible refine q_box (d := some 3) ?_); intro W3 g3 hE3 hB3 hg3; simp [Act.eval, Act.put, Value.cells] at hB3; (try replace hE := hE.trans hE3); (try replace hEr := hEr.trans hE3); (try replace hF := hF.ext hE3); (try replace hM := hM.ext hE3); (try replace hK := hK.ext hE3); (try replace hB2 := hB2.ext hE3); (try replace hB3 := hB3.ext hE3); (try replace hB6 := hB6.ext hE3); (try replace hb2_0 := Ext.cell_some hE3 hb2_0); (try replace hb2_1 := Ext.cell_some hE3 hb2_1); (try replace hb2_2 := Ext.cell_some hE3 hb2_2); (try replace hb3_0 := Ext.cell_some hE3 hb3_0); (try replace hb3_1 := Ext.cell_some hE3 hb3_1); (try replace e2 := Ext.cell_some hE3 e2); (try replace hb6_0 := Ext.cell_some hE3 hb6_0); (try replace hb6_1 := Ext.cell_some hE3 hb6_1); (try replace hb6_2 := Ext.cell_some hE3 hb6_2); have hb3_0 := hB3.cell 0; have hb3_1 := hB3.cell 1; simp at hb3_0 hb3_1; clear hE3))
                  go_quiet (fail)
                  (try replace hE := hE.trans ((Ext.refl W6).drewN nq)); (try replace hEr := hEr.trans ((Ext.refl W6).drewN nq)); (try replace hF := hF.ext ((Ext.refl W6).drewN nq)); (try replace hM := hM.ext ((Ext.refl W6).drewN nq)); (try replace hK := hK.ext ((Ext.refl W6).drewN nq)); (try replace hB2 := hB2.ext ((Ext.refl W6).drewN nq)); (try replace hB3 := hB3.ext ((Ext.refl W6).drewN nq)); (try replace hB6 := hB6.ext ((Ext.refl W6).drewN nq)); (try replace hb2_0 := Ext.cell_some ((Ext.refl W6).drewN nq) hb2_0); (try replace hb2_1 := Ext.cell_some ((Ext.refl W6).drewN nq) hb2_1); (try replace hb2_2 := Ext.cell_some ((Ext.refl W6).drewN nq) hb2_2); (try replace hb3_0 := Ext.cell_some ((Ext.refl W6).drewN nq) hb3_0); (try replace hb3_1 := Ext.cell_some ((Ext.refl W6).drewN nq) hb3_1); (try replace e2 := Ext.cell_some ((Ext.refl W6).drewN nq) e2); (try replace hb6_0 := Ext.cell_some ((Ext.refl W6).drewN nq) hb6_0); (try replace hb6_1 := Ext.cell_some ((Ext.refl W6).drewN nq) hb6_1); (try replace hb6_2 := Ext.cell_some ((Ext.refl W6).drewN nq) hb6_2)
                  generalize World.drewN W6 nq = WqW6 at *
                  go_wp2_with fail
                  go_region_held3 (fun w' => w'.cell? ⟨g2, 0, none⟩ = some (fv) ∧ w'.cell? ⟨g2, 1, none⟩ = some (mv) ∧ w'.cell? ⟨g2, 2, none⟩ = some (.int .i64 c.all) ∧ w'.cell? ((⟨g6, 1, none⟩)) = some (.int .i64 s.kept[k].what)) (simp [*]) ((first | (go_at_call 97; ((with_reducible refine (things_any _ c _ (by first | exact CodeV.of hF hM HW.out | exact (CodeV.of hF hM HW.out).d) HbF.out).mono ?_); rintro e Wc4 ⟨rfl, hEc4⟩; (try replace hEc4 := Ext.undrew hEc4); (try replace hE := hE.trans hEc4); (try replace hEr := hEr.trans hEc4); (try replace hF := hF.ext hEc4); (try replace hM := hM.ext hEc4); (try replace hK := hK.ext hEc4); (try replace hB2 := hB2.ext hEc4); (try replace hB3 := hB3.ext hEc4); (try replace hB6 := hB6.ext hEc4); (try replace hb2_0 := Ext.cell_some hEc4 hb2_0); (try replace hb2_1 := Ext.cell_some hEc4 hb2_1); (try replace hb2_2 := Ext.cell_some hEc4 hb2_2); (try replace hb3_0 := Ext.cell_some hEc4 hb3_0); (try replace hb3_1 := Ext.cell_some hEc4 hb3_1); (try replace e2 := Ext.cell_some hEc4 e2); (try replace hb6_0 := Ext.cell_some hEc4 hb6_0); (try replace hb6_1 := Ext.cell_some hEc4 hb6_1); (try replace hb6_2 := Ext.cell_some hEc4 hb6_2))) | ((go_at_call 56; refine (in_any _ _ _ _).mono ?_; rintro e w' ⟨rfl, rfl⟩))))
                  go_wp2_with (go_at_call 56; refine (in_any _ _ _ _).mono ?_; rintro e w' ⟨rfl, rfl⟩)
                  go_roundw
                  case rel => exact ⟨hEr, k + 1, by omega, by go_num, Hr.out⟩
                  case measure => simp [intOf]; omega
                · simp only [Bool.not_eq_true] at p4
                  have hr := Sheet.err_line hln (by decide) (linesErr_bad hlt (Code.lineErr_sum p1 Hp2.out p3 p4) (by decide) Hs.out)
                  have Hr := Lib.hid hr
                  clear hr
                  go_wp2_with (first | ((go_at_call 56; refine (in_any _ _ _ _).mono ?_; rintro e w' ⟨rfl, rfl⟩)) | ((with_reducible refine q_load (d := some 22) (hl := eS) ?_ ?_); rfl) | ((with_reducible refine q_newvar (e := 99) (u := 6) (v := .agg #[.int .i64 s.kept[k].no, .int .i64 s.kept[k].what, .int .i64 s.kept[k].sum]) ti99 ?_ ?_ ?_ ?_ ?_ ?_); (intro g; rfl); (intro g; rfl); rfl; rfl; (simp [Value.cells, Value.oneCell']); intro W6 g6 hE6 hB6 hg6; simp [Value.cells] at hB6; (try replace hE := hE.trans hE6); (try replace hEr := hEr.trans hE6); (try replace hF := hF.ext hE6); (try replace hM := hM.ext hE6); (try replace hK := hK.ext hE6); (try replace hB2 := hB2.ext hE6); (try replace hB3 := hB3.ext hE6); (try replace hB6 := hB6.ext hE6); (try replace hb2_0 := Ext.cell_some hE6 hb2_0); (try replace hb2_1 := Ext.cell_some hE6 hb2_1); (try replace hb2_2 := Ext.cell_some hE6 hb2_2); (try replace hb3_0 := Ext.cell_some hE6 hb3_0); (try replace hb3_1 := Ext.cell_some hE6 hb3_1); (try replace e2 := Ext.cell_some hE6 e2); (try replace hb6_0 := Ext.cell_some hE6 hb6_0); (try replace hb6_1 := Ext.cell_some hE6 hb6_1); (try replace hb6_2 := Ext.cell_some hE6 hb6_2); have hb6_0 := hB6.cell 0; have hb6_1 := hB6.cell 1; have hb6_2 := hB6.cell 2; simp at hb6_0 hb6_1 hb6_2; clear hE6) | ((with_reducible refine q_box (d := some 2) ?_); intro W2 g2 hE2 hB2 hg2; simp [Act.eval, Act.put, Value.cells] at hB2; (try replace hE := hE.trans hE2); (try replace hEr := hEr.trans hE2); (try replace hF := hF.ext hE2); (try replace hM := hM.ext hE2); (try replace hK := hK.ext hE2); (try replace hB2 := hB2.ext hE2); (try replace hB3 := hB3.ext hE2); (try replace hB6 := hB6.ext hE2); (try replace hb2_0 := Ext.cell_some hE2 hb2_0); (try replace hb2_1 := Ext.cell_some hE2 hb2_1); (try replace hb2_2 := Ext.cell_some hE2 hb2_2); (try replace hb3_0 := Ext.cell_some hE2 hb3_0); (try replace hb3_1 := Ext.cell_some hE2 hb3_1); (try replace e2 := Ext.cell_some hE2 e2); (try replace hb6_0 := Ext.cell_some hE2 hb6_0); (try replace hb6_1 := Ext.cell_some hE2 hb6_1); (try replace hb6_2 := Ext.cell_some hE2 hb6_2); have hb2_0 := hB2.cell 0; have hb2_1 := hB2.cell 1; have hb2_2 := hB2.cell 2; simp at hb2_0 hb2_1 hb2_2; clear hE2) | ((with_reducible refine q_box (d := some 3) ?_); intro W3 g3 hE3 hB3 hg3; simp [Act.eval, Act.put, Value.cells] at hB3; (try replace hE := hE.trans hE3); (try replace hEr := hEr.trans hE3); (try replace hF := hF.ext hE3); (try replace hM := hM.ext hE3); (try replace hK := hK.ext hE3); (try replace hB2 := hB2.ext hE3); (try replace hB3 := hB3.ext hE3); (try replace hB6 := hB6.ext hE3); (try replace hb2_0 := Ext.cell_some hE3 hb2_0); (try replace hb2_1 := Ext.cell_some hE3 hb2_1); (try replace hb2_2 := Ext.cell_some hE3 hb2_2); (try replace hb3_0 := Ext.cell_some hE3 hb3_0); (try replace hb3_1 := Ext.cell_some hE3 hb3_1); (try replace e2 := Ext.cell_some hE3 e2); (try replace hb6_0 := Ext.cell_some hE3 hb6_0); (try replace hb6_1 := Ext.cell_some hE3 hb6_1); (try replace hb6_2 := Ext.cell_some hE3 hb6_2); have hb3_0 := hB3.cell 0; have hb3_1 := hB3.cell 1; simp at hb3_0 hb3_1; clear hE3))
                  go_quiet (fail)
                  (try replace hE := hE.trans ((Ext.refl W6).drewN nq)); (try replace hEr := hEr.trans ((Ext.refl W6).drewN nq)); (try replace hF := hF.ext ((Ext.refl W6).drewN nq)); (try replace hM := hM.ext ((Ext.refl W6).drewN nq)); (try replace hK := hK.ext ((Ext.refl W6).drewN nq)); (try replace hB2 := hB2.ext ((Ext.refl W6).drewN nq)); (try replace hB3 := hB3.ext ((Ext.refl W6).drewN nq)); (try replace hB6 := hB6.ext ((Ext.refl W6).drewN nq)); (try replace hb2_0 := Ext.cell_some ((Ext.refl W6).drewN nq) hb2_0); (try replace hb2_1 := Ext.cell_some ((Ext.refl W6).drewN nq) hb2_1); (try replace hb2_2 := Ext.cell_some ((Ext.refl W6).drewN nq) hb2_2); (try replace hb3_0 := Ext.cell_some ((Ext.refl W6).drewN nq) hb3_0); (try replace hb3_1 := Ext.cell_some ((Ext.refl W6).drewN nq) hb3_1); (try replace e2 := Ext.cell_some ((Ext.refl W6).drewN nq) e2); (try replace hb6_0 := Ext.cell_some ((Ext.refl W6).drewN nq) hb6_0); (try replace hb6_1 := Ext.cell_some ((Ext.refl W6).drewN nq) hb6_1); (try replace hb6_2 := Ext.cell_some ((Ext.refl W6).drewN nq) hb6_2)
                  generalize World.drewN W6 nq = WqW6 at *
                  go_wp2_with fail
                  go_region_held3 (fun w' => w'.cell? ⟨g2, 0, none⟩ = some (fv) ∧ w'.cell? ⟨g2, 1, none⟩ = some (mv) ∧ w'.cell? ⟨g2, 2, none⟩ = some (.int .i64 c.all) ∧ w'.cell? ((⟨g6, 1, none⟩)) = some (.int .i64 s.kept[k].what)) (simp [*]) ((first | (go_at_call 97; ((with_reducible refine (things_any _ c _ (by first | exact CodeV.of hF hM HW.out | exact (CodeV.of hF hM HW.out).d) HbF.out).mono ?_); rintro e Wc5 ⟨rfl, hEc5⟩; (try replace hEc5 := Ext.undrew hEc5); (try replace hE := hE.trans hEc5); (try replace hEr := hEr.trans hEc5); (try replace hF := hF.ext hEc5); (try replace hM := hM.ext hEc5); (try replace hK := hK.ext hEc5); (try replace hB2 := hB2.ext hEc5); (try replace hB3 := hB3.ext hEc5); (try replace hB6 := hB6.ext hEc5); (try replace hb2_0 := Ext.cell_some hEc5 hb2_0); (try replace hb2_1 := Ext.cell_some hEc5 hb2_1); (try replace hb2_2 := Ext.cell_some hEc5 hb2_2); (try replace hb3_0 := Ext.cell_some hEc5 hb3_0); (try replace hb3_1 := Ext.cell_some hEc5 hb3_1); (try replace e2 := Ext.cell_some hEc5 e2); (try replace hb6_0 := Ext.cell_some hEc5 hb6_0); (try replace hb6_1 := Ext.cell_some hEc5 hb6_1); (try replace hb6_2 := Ext.cell_some hEc5 hb6_2))) | ((go_at_call 56; refine (in_any _ _ _ _).mono ?_; rintro e w' ⟨rfl, rfl⟩))))
                  go_wp2_with (go_at_call 56; refine (in_any _ _ _ _).mono ?_; rintro e w' ⟨rfl, rfl⟩)
                  go_ret
                  exact ⟨ret_i Hr.out.symm, hE⟩
              · simp only [Bool.not_eq_true] at p3
                have hr := Sheet.err_line hln (by decide) (linesErr_bad hlt (Code.lineErr_none p1 Hp2.out p3) (by decide) Hs.out)
                have Hr := Lib.hid hr
                clear hr
                go_wp2_with (first | ((go_at_call 56; refine (in_any _ _ _ _).mono ?_; rintro e w' ⟨rfl, rfl⟩)) | ((with_reducible refine q_load (d := some 22) (hl := eS) ?_ ?_); rfl) | ((with_reducible refine q_newvar (e := 99) (u := 6) (v := .agg #[.int .i64 s.kept[k].no, .int .i64 s.kept[k].what, .int .i64 s.kept[k].sum]) ti99 ?_ ?_ ?_ ?_ ?_ ?_); (intro g; rfl); (intro g; rfl); rfl; rfl; (simp [Value.cells, Value.oneCell']); intro W6 g6 hE6 hB6 hg6; simp [Value.cells] at hB6; (try replace hE := hE.trans hE6); (try replace hEr := hEr.trans hE6); (try replace hF := hF.ext hE6); (try replace hM := hM.ext hE6); (try replace hK := hK.ext hE6); (try replace hB2 := hB2.ext hE6); (try replace hB3 := hB3.ext hE6); (try replace hB6 := hB6.ext hE6); (try replace hb2_0 := Ext.cell_some hE6 hb2_0); (try replace hb2_1 := Ext.cell_some hE6 hb2_1); (try replace hb2_2 := Ext.cell_some hE6 hb2_2); (try replace hb3_0 := Ext.cell_some hE6 hb3_0); (try replace hb3_1 := Ext.cell_some hE6 hb3_1); (try replace e2 := Ext.cell_some hE6 e2); (try replace hb6_0 := Ext.cell_some hE6 hb6_0); (try replace hb6_1 := Ext.cell_some hE6 hb6_1); (try replace hb6_2 := Ext.cell_some hE6 hb6_2); have hb6_0 := hB6.cell 0; have hb6_1 := hB6.cell 1; have hb6_2 := hB6.cell 2; simp at hb6_0 hb6_1 hb6_2; clear hE6) | ((with_reducible refine q_box (d := some 2) ?_); intro W2 g2 hE2 hB2 hg2; simp [Act.eval, Act.put, Value.cells] at hB2; (try replace hE := hE.trans hE2); (try replace hEr := hEr.trans hE2); (try replace hF := hF.ext hE2); (try replace hM := hM.ext hE2); (try replace hK := hK.ext hE2); (try replace hB2 := hB2.ext hE2); (try replace hB3 := hB3.ext hE2); (try replace hB6 := hB6.ext hE2); (try replace hb2_0 := Ext.cell_some hE2 hb2_0); (try replace hb2_1 := Ext.cell_some hE2 hb2_1); (try replace hb2_2 := Ext.cell_some hE2 hb2_2); (try replace hb3_0 := Ext.cell_some hE2 hb3_0); (try replace hb3_1 := Ext.cell_some hE2 hb3_1); (try replace e2 := Ext.cell_some hE2 e2); (try replace hb6_0 := Ext.cell_some hE2 hb6_0); (try replace hb6_1 := Ext.cell_some hE2 hb6_1); (try replace hb6_2 := Ext.cell_some hE2 hb6_2); have hb2_0 := hB2.cell 0; have hb2_1 := hB2.cell 1; have hb2_2 := hB2.cell 2; simp at hb2_0 hb2_1 hb2_2; clear hE2) | ((with_reducible refine q_box (d := some 3) ?_); intro W3 g3 hE3 hB3 hg3; simp [Act.eval, Act.put, Value.cells] at hB3; (try replace hE := hE.trans hE3); (try replace hEr := hEr.trans hE3); (try replace hF := hF.ext hE3); (try replace hM := hM.ext hE3); (try replace hK := hK.ext hE3); (try replace hB2 := hB2.ext hE3); (try replace hB3 := hB3.ext hE3); (try replace hB6 := hB6.ext hE3); (try replace hb2_0 := Ext.cell_some hE3 hb2_0); (try replace hb2_1 := Ext.cell_some hE3 hb2_1); (try replace hb2_2 := Ext.cell_some hE3 hb2_2); (try replace hb3_0 := Ext.cell_some hE3 hb3_0); (try replace hb3_1 := Ext.cell_some hE3 hb3_1); (try replace e2 := Ext.cell_some hE3 e2); (try replace hb6_0 := Ext.cell_some hE3 hb6_0); (try replace hb6_1 := Ext.cell_some hE3 hb6_1); (try replace hb6_2 := Ext.cell_some hE3 hb6_2); have hb3_0 := hB3.cell 0; have hb3_1 := hB3.cell 1; simp at hb3_0 hb3_1; clear hE3))
                go_quiet (fail)
                (try replace hE := hE.trans ((Ext.refl W6).drewN nq)); (try replace hEr := hEr.trans ((Ext.refl W6).drewN nq)); (try replace hF := hF.ext ((Ext.refl W6).drewN nq)); (try replace hM := hM.ext ((Ext.refl W6).drewN nq)); (try replace hK := hK.ext ((Ext.refl W6).drewN nq)); (try replace hB2 := hB2.ext ((Ext.refl W6).drewN nq)); (try replace hB3 := hB3.ext ((Ext.refl W6).drewN nq)); (try replace hB6 := hB6.ext ((Ext.refl W6).drewN nq)); (try replace hb2_0 := Ext.cell_some ((Ext.refl W6).drewN nq) hb2_0); (try replace hb2_1 := Ext.cell_some ((Ext.refl W6).drewN nq) hb2_1); (try replace hb2_2 := Ext.cell_some ((Ext.refl W6).drewN nq) hb2_2); (try replace hb3_0 := Ext.cell_some ((Ext.refl W6).drewN nq) hb3_0); (try replace hb3_1 := Ext.cell_some ((Ext.refl W6).drewN nq) hb3_1); (try replace e2 := Ext.cell_some ((Ext.refl W6).drewN nq) e2); (try replace hb6_0 := Ext.cell_some ((Ext.refl W6).drewN nq) hb6_0); (try replace hb6_1 := Ext.cell_some ((Ext.refl W6).drewN nq) hb6_1); (try replace hb6_2 := Ext.cell_some ((Ext.refl W6).drewN nq) hb6_2)
                generalize World.drewN W6 nq = WqW6 at *
                go_wp2_with fail
                go_region_held3 (fun w' => w'.cell? ⟨g2, 0, none⟩ = some (fv) ∧ w'.cell? ⟨g2, 1, none⟩ = some (mv) ∧ w'.cell? ⟨g2, 2, none⟩ = some (.int .i64 c.all) ∧ w'.cell? ((⟨g6, 1, none⟩)) = some (.int .i64 s.kept[k].what)) (simp [*]) ((first | (go_at_call 97; ((with_reducible refine (things_any _ c _ (by first | exact CodeV.of hF hM HW.out | exact (CodeV.of hF hM HW.out).d) HbF.out).mono ?_); rintro e Wc6 ⟨rfl, hEc6⟩; (try replace hEc6 := Ext.undrew hEc6); (try replace hE := hE.trans hEc6); (try replace hEr := hEr.trans hEc6); (try replace hF := hF.ext hEc6); (try replace hM := hM.ext hEc6); (try replace hK := hK.ext hEc6); (try replace hB2 := hB2.ext hEc6); (try replace hB3 := hB3.ext hEc6); (try replace hB6 := hB6.ext hEc6); (try replace hb2_0 := Ext.cell_some hEc6 hb2_0); (try replace hb2_1 := Ext.cell_some hEc6 hb2_1); (try replace hb2_2 := Ext.cell_some hEc6 hb2_2); (try replace hb3_0 := Ext.cell_some hEc6 hb3_0); (try replace hb3_1 := Ext.cell_some hEc6 hb3_1); (try replace e2 := Ext.cell_some hEc6 e2); (try replace hb6_0 := Ext.cell_some hEc6 hb6_0); (try replace hb6_1 := Ext.cell_some hEc6 hb6_1); (try replace hb6_2 := Ext.cell_some hEc6 hb6_2))) | ((go_at_call 56; refine (in_any _ _ _ _).mono ?_; rintro e w' ⟨rfl, rfl⟩))))
                go_wp2
                go_ret
                exact ⟨ret_i Hr.out.symm, hE⟩
        · simp only [Bool.not_eq_true] at p1
          have hr := Sheet.err_line hln (by decide) (linesErr_bad hlt (Code.lineErr_no p1) (by decide) Hs.out)
          have Hr := Lib.hid hr
          clear hr hc
          go_wp2_with (first | ((go_at_call 56; refine (in_any _ _ _ _).mono ?_; rintro e w' ⟨rfl, rfl⟩)) | ((with_reducible refine q_load (d := some 22) (hl := eS) ?_ ?_); rfl) | ((with_reducible refine q_newvar (e := 99) (u := 6) (v := .agg #[.int .i64 s.kept[k].no, .int .i64 s.kept[k].what, .int .i64 s.kept[k].sum]) ti99 ?_ ?_ ?_ ?_ ?_ ?_); (intro g; rfl); (intro g; rfl); rfl; rfl; (simp [Value.cells, Value.oneCell']); intro W6 g6 hE6 hB6 hg6; simp [Value.cells] at hB6; (try replace hE := hE.trans hE6); (try replace hEr := hEr.trans hE6); (try replace hF := hF.ext hE6); (try replace hM := hM.ext hE6); (try replace hK := hK.ext hE6); (try replace hB2 := hB2.ext hE6); (try replace hB3 := hB3.ext hE6); (try replace hB6 := hB6.ext hE6); (try replace hb2_0 := Ext.cell_some hE6 hb2_0); (try replace hb2_1 := Ext.cell_some hE6 hb2_1); (try replace hb2_2 := Ext.cell_some hE6 hb2_2); (try replace hb3_0 := Ext.cell_some hE6 hb3_0); (try replace hb3_1 := Ext.cell_some hE6 hb3_1); (try replace e2 := Ext.cell_some hE6 e2); (try replace hb6_0 := Ext.cell_some hE6 hb6_0); (try replace hb6_1 := Ext.cell_some hE6 hb6_1); (try replace hb6_2 := Ext.cell_some hE6 hb6_2); have hb6_0 := hB6.cell 0; have hb6_1 := hB6.cell 1; have hb6_2 := hB6.cell 2; simp at hb6_0 hb6_1 hb6_2; clear hE6) | ((with_reducible refine q_box (d := some 2) ?_); intro W2 g2 hE2 hB2 hg2; simp [Act.eval, Act.put, Value.cells] at hB2; (try replace hE := hE.trans hE2); (try replace hEr := hEr.trans hE2); (try replace hF := hF.ext hE2); (try replace hM := hM.ext hE2); (try replace hK := hK.ext hE2); (try replace hB2 := hB2.ext hE2); (try replace hB3 := hB3.ext hE2); (try replace hB6 := hB6.ext hE2); (try replace hb2_0 := Ext.cell_some hE2 hb2_0); (try replace hb2_1 := Ext.cell_some hE2 hb2_1); (try replace hb2_2 := Ext.cell_some hE2 hb2_2); (try replace hb3_0 := Ext.cell_some hE2 hb3_0); (try replace hb3_1 := Ext.cell_some hE2 hb3_1); (try replace e2 := Ext.cell_some hE2 e2); (try replace hb6_0 := Ext.cell_some hE2 hb6_0); (try replace hb6_1 := Ext.cell_some hE2 hb6_1); (try replace hb6_2 := Ext.cell_some hE2 hb6_2); have hb2_0 := hB2.cell 0; have hb2_1 := hB2.cell 1; have hb2_2 := hB2.cell 2; simp at hb2_0 hb2_1 hb2_2; clear hE2) | ((with_reducible refine q_box (d := some 3) ?_); intro W3 g3 hE3 hB3 hg3; simp [Act.eval, Act.put, Value.cells] at hB3; (try replace hE := hE.trans hE3); (try replace hEr := hEr.trans hE3); (try replace hF := hF.ext hE3); (try replace hM := hM.ext hE3); (try replace hK := hK.ext hE3); (try replace hB2 := hB2.ext hE3); (try replace hB3 := hB3.ext hE3); (try replace hB6 := hB6.ext hE3); (try replace hb2_0 := Ext.cell_some hE3 hb2_0); (try replace hb2_1 := Ext.cell_some hE3 hb2_1); (try replace hb2_2 := Ext.cell_some hE3 hb2_2); (try replace hb3_0 := Ext.cell_some hE3 hb3_0); (try replace hb3_1 := Ext.cell_some hE3 hb3_1); (try replace e2 := Ext.cell_some hE3 e2); (try replace hb6_0 := Ext.cell_some hE3 hb6_0); (try replace hb6_1 := Ext.cell_some hE3 hb6_1); (try replace hb6_2 := Ext.cell_some hE3 hb6_2); have hb3_0 := hB3.cell 0; have hb3_1 := hB3.cell 1; simp at hb3_0 hb3_1; clear hE3))
          go_ret
          exact ⟨ret_i Hr.out.symm, hE⟩
      · obtain rfl : k = s.kept.length := by omega
        have he := linesErr_end Hs.out
        have He := Lib.hid he
        clear he h4
        by_cases hl3 : s.lost.length ≤ 3
        · have hr := Sheet.err_ok hln He.out hl3
          have Hr := Lib.hid hr
          clear hr
          go_wp2_with (first | (go_at_call 47; ((with_reducible refine (Lost_any _ s s.lines.toNat _ (by exact SheetV.of hK) (by omega) (by omega)).mono ?_); rintro e Wc7 ⟨lv, rfl, hLv, hEc7⟩; (try replace hEc7 := Ext.undrew hEc7); (try replace hE := hE.trans hEc7); (try replace hEr := hEr.trans hEc7); (try replace hF := hF.ext hEc7); (try replace hM := hM.ext hEc7); (try replace hK := hK.ext hEc7); (try replace hB2 := hB2.ext hEc7); (try replace hB3 := hB3.ext hEc7); (try replace hB6 := hB6.ext hEc7); (try replace hb2_0 := Ext.cell_some hEc7 hb2_0); (try replace hb2_1 := Ext.cell_some hEc7 hb2_1); (try replace hb2_2 := Ext.cell_some hEc7 hb2_2); (try replace hb3_0 := Ext.cell_some hEc7 hb3_0); (try replace hb3_1 := Ext.cell_some hEc7 hb3_1); (try replace e2 := Ext.cell_some hEc7 e2); (try replace hb6_0 := Ext.cell_some hEc7 hb6_0); (try replace hb6_1 := Ext.cell_some hEc7 hb6_1); (try replace hb6_2 := Ext.cell_some hEc7 hb6_2); obtain ⟨AL, cL, rfl, hL1, hL2, hL3, hL4⟩ := hLv.ints)) | ((with_reducible refine q_box (d := some 2) ?_); intro W2 g2 hE2 hB2 hg2; simp [Act.eval, Act.put, Value.cells] at hB2; (try replace hE := hE.trans hE2); (try replace hEr := hEr.trans hE2); (try replace hF := hF.ext hE2); (try replace hM := hM.ext hE2); (try replace hK := hK.ext hE2); (try replace hB2 := hB2.ext hE2); (try replace hB3 := hB3.ext hE2); (try replace hB6 := hB6.ext hE2); (try replace hb2_0 := Ext.cell_some hE2 hb2_0); (try replace hb2_1 := Ext.cell_some hE2 hb2_1); (try replace hb2_2 := Ext.cell_some hE2 hb2_2); (try replace hb3_0 := Ext.cell_some hE2 hb3_0); (try replace hb3_1 := Ext.cell_some hE2 hb3_1); (try replace e2 := Ext.cell_some hE2 e2); (try replace hb6_0 := Ext.cell_some hE2 hb6_0); (try replace hb6_1 := Ext.cell_some hE2 hb6_1); (try replace hb6_2 := Ext.cell_some hE2 hb6_2); have hb2_0 := hB2.cell 0; have hb2_1 := hB2.cell 1; have hb2_2 := hB2.cell 2; simp at hb2_0 hb2_1 hb2_2; clear hE2) | ((with_reducible refine q_box (d := some 3) ?_); intro W3 g3 hE3 hB3 hg3; simp [Act.eval, Act.put, Value.cells] at hB3; (try replace hE := hE.trans hE3); (try replace hEr := hEr.trans hE3); (try replace hF := hF.ext hE3); (try replace hM := hM.ext hE3); (try replace hK := hK.ext hE3); (try replace hB2 := hB2.ext hE3); (try replace hB3 := hB3.ext hE3); (try replace hB6 := hB6.ext hE3); (try replace hb2_0 := Ext.cell_some hE3 hb2_0); (try replace hb2_1 := Ext.cell_some hE3 hb2_1); (try replace hb2_2 := Ext.cell_some hE3 hb2_2); (try replace hb3_0 := Ext.cell_some hE3 hb3_0); (try replace hb3_1 := Ext.cell_some hE3 hb3_1); (try replace e2 := Ext.cell_some hE3 e2); (try replace hb6_0 := Ext.cell_some hE3 hb6_0); (try replace hb6_1 := Ext.cell_some hE3 hb6_1); (try replace hb6_2 := Ext.cell_some hE3 hb6_2); have hb3_0 := hB3.cell 0; have hb3_1 := hB3.cell 1; simp at hb3_0 hb3_1; clear hE3))
          go_ret
          exact ⟨ret_i Hr.out.symm, hE⟩
        · have hr := Sheet.err_long hln He.out hl3
          have Hr := Lib.hid hr
          clear hr
          go_wp2_with (first | (go_at_call 47; ((with_reducible refine (Lost_any _ s s.lines.toNat _ (by exact SheetV.of hK) (by omega) (by omega)).mono ?_); rintro e Wc8 ⟨lv, rfl, hLv, hEc8⟩; (try replace hEc8 := Ext.undrew hEc8); (try replace hE := hE.trans hEc8); (try replace hEr := hEr.trans hEc8); (try replace hF := hF.ext hEc8); (try replace hM := hM.ext hEc8); (try replace hK := hK.ext hEc8); (try replace hB2 := hB2.ext hEc8); (try replace hB3 := hB3.ext hEc8); (try replace hB6 := hB6.ext hEc8); (try replace hb2_0 := Ext.cell_some hEc8 hb2_0); (try replace hb2_1 := Ext.cell_some hEc8 hb2_1); (try replace hb2_2 := Ext.cell_some hEc8 hb2_2); (try replace hb3_0 := Ext.cell_some hEc8 hb3_0); (try replace hb3_1 := Ext.cell_some hEc8 hb3_1); (try replace e2 := Ext.cell_some hEc8 e2); (try replace hb6_0 := Ext.cell_some hEc8 hb6_0); (try replace hb6_1 := Ext.cell_some hEc8 hb6_1); (try replace hb6_2 := Ext.cell_some hEc8 hb6_2); obtain ⟨AL, cL, rfl, hL1, hL2, hL3, hL4⟩ := hLv.ints)) | ((with_reducible refine q_box (d := some 2) ?_); intro W2 g2 hE2 hB2 hg2; simp [Act.eval, Act.put, Value.cells] at hB2; (try replace hE := hE.trans hE2); (try replace hEr := hEr.trans hE2); (try replace hF := hF.ext hE2); (try replace hM := hM.ext hE2); (try replace hK := hK.ext hE2); (try replace hB2 := hB2.ext hE2); (try replace hB3 := hB3.ext hE2); (try replace hB6 := hB6.ext hE2); (try replace hb2_0 := Ext.cell_some hE2 hb2_0); (try replace hb2_1 := Ext.cell_some hE2 hb2_1); (try replace hb2_2 := Ext.cell_some hE2 hb2_2); (try replace hb3_0 := Ext.cell_some hE2 hb3_0); (try replace hb3_1 := Ext.cell_some hE2 hb3_1); (try replace e2 := Ext.cell_some hE2 e2); (try replace hb6_0 := Ext.cell_some hE2 hb6_0); (try replace hb6_1 := Ext.cell_some hE2 hb6_1); (try replace hb6_2 := Ext.cell_some hE2 hb6_2); have hb2_0 := hB2.cell 0; have hb2_1 := hB2.cell 1; have hb2_2 := hB2.cell 2; simp at hb2_0 hb2_1 hb2_2; clear hE2) | ((with_reducible refine q_box (d := some 3) ?_); intro W3 g3 hE3 hB3 hg3; simp [Act.eval, Act.put, Value.cells] at hB3; (try replace hE := hE.trans hE3); (try replace hEr := hEr.trans hE3); (try replace hF := hF.ext hE3); (try replace hM := hM.ext hE3); (try replace hK := hK.ext hE3); (try replace hB2 := hB2.ext hE3); (try replace hB3 := hB3.ext hE3); (try replace hB6 := hB6.ext hE3); (try replace hb2_0 := Ext.cell_some hE3 hb2_0); (try replace hb2_1 := Ext.cell_some hE3 hb2_1); (try replace hb2_2 := Ext.cell_some hE3 hb2_2); (try replace hb3_0 := Ext.cell_some hE3 hb3_0); (try replace hb3_1 := Ext.cell_some hE3 hb3_1); (try replace e2 := Ext.cell_some hE3 e2); (try replace hb6_0 := Ext.cell_some hE3 hb6_0); (try replace hb6_1 := Ext.cell_some hE3 hb6_1); (try replace hb6_2 := Ext.cell_some hE3 hb6_2); have hb3_0 := hB3.cell 0; have hb3_1 := hB3.cell 1; simp at hb3_0 hb3_1; clear hE3))
          go_ret
          exact ⟨ret_i Hr.out.symm, hE⟩
  · simp only [Bool.not_eq_true] at hln
    have hr := Sheet.err_lines (c := c) hln
    have Hr := Lib.hid hr
    clear hr
    go_enter Tryz.func96, Tryz.ntmps96
    go_wp2_with (first | ((go_at_call 56; refine (in_any _ _ _ _).mono ?_; rintro e w' ⟨rfl, rfl⟩)) | ((with_reducible refine q_box (d := some 2) ?_); intro W2 g2 hE2 hB2 hg2; simp [Act.eval, Act.put, Value.cells] at hB2; (try replace hE := hE.trans hE2); (try replace hEr := hEr.trans hE2); (try replace hF := hF.ext hE2); (try replace hM := hM.ext hE2); (try replace hK := hK.ext hE2); (try replace hB2 := hB2.ext hE2); (try replace hB3 := hB3.ext hE2); (try replace hB6 := hB6.ext hE2); (try replace hb2_0 := Ext.cell_some hE2 hb2_0); (try replace hb2_1 := Ext.cell_some hE2 hb2_1); (try replace hb2_2 := Ext.cell_some hE2 hb2_2); (try replace hb3_0 := Ext.cell_some hE2 hb3_0); (try replace hb3_1 := Ext.cell_some hE2 hb3_1); (try replace e2 := Ext.cell_some hE2 e2); (try replace hb6_0 := Ext.cell_some hE2 hb6_0); (try replace hb6_1 := Ext.cell_some hE2 hb6_1); (try replace hb6_2 := Ext.cell_some hE2 hb6_2); have hb2_0 := hB2.cell 0; have hb2_1 := hB2.cell 1; have hb2_2 := hB2.cell 2; simp at hb2_0 hb2_1 hb2_2; clear hE2) | ((with_reducible refine q_box (d := some 3) ?_); intro W3 g3 hE3 hB3 hg3; simp [Act.eval, Act.put, Value.cells] at hB3; (try replace hE := hE.trans hE3); (try replace hEr := hEr.trans hE3); (try replace hF := hF.ext hE3); (try replace hM := hM.ext hE3); (try replace hK := hK.ext hE3); (try replace hB2 := hB2.ext hE3); (try replace hB3 := hB3.ext hE3); (try replace hB6 := hB6.ext hE3); (try replace hb2_0 := Ext.cell_some hE3 hb2_0); (try replace hb2_1 := Ext.cell_some hE3 hb2_1); (try replace hb2_2 := Ext.cell_some hE3 hb2_2); (try replace hb3_0 := Ext.cell_some hE3 hb3_0); (try replace hb3_1 := Ext.cell_some hE3 hb3_1); (try replace e2 := Ext.cell_some hE3 e2); (try replace hb6_0 := Ext.cell_some hE3 hb6_0); (try replace hb6_1 := Ext.cell_some hE3 hb6_1); (try replace hb6_2 := Ext.cell_some hE3 hb6_2); have hb3_0 := hB3.cell 0; have hb3_1 := hB3.cell 1; simp at hb3_0 hb3_1; clear hE3))
    go_ret
    exact ⟨ret_i Hr.out.symm, hE⟩
end Go.Bp
end
section
/- Plain Lean: which tests fit a sheet. -/
namespace Go.Bp
open Go.RowKit
theorem Ints.cut {w : World} {ad : Addr} {xs : List Int} {cp n : Nat} (h : Ints w (.slice (some ad) xs.length cp) xs) (hn : n ≤ xs.length) : Ints w (.slice (some ad) n cp) (xs.take n) := by
  obtain ⟨A, c, hv, h1, h2, h3, h4⟩ := h
  injection hv with e1 e2 e3
  subst e1 e3
  have hl : (xs.take n).length = n := by rw [List.length_take]; omega
  unfold Ints
  rw [hl]
  refine ⟨some ad, cp, rfl, by omega, h2, by rw [encI_len, hl]; omega, fun h0 => ⟨ad, rfl, ?_⟩⟩
  obtain ⟨ad', he, hc⟩ := h4 (by omega)
  injection he with he
  subst he
  intro j u hu
  refine hc j u ?_
  have : encI (xs.take n) = (encI xs).take n := by simp [encI, List.map_take]
  rw [this, List.getElem?_take] at hu
  split at hu
  · exact hu
  · cases hu
/-- What a sheet that is sound says of a line. -/
structure LineOk (c : Code) (m : Int) (x : Line) : Prop where
  no1 : 1 ≤ x.no
  no2 : x.no ≤ m
  what1 : 0 ≤ x.what
  what2 : x.what < c.things
  sum1 : 0 ≤ x.sum
  sum2 : x.sum ≤ 240
theorem lineErr_zero {c : Code} {m : Int} {prev : Option Int} {x : Line} (h : c.lineErr m prev x = 0) : LineOk c m x ∧ prev.any (fun y => decide (x.no ≤ y)) = false := by
  unfold Code.lineErr at h
  split at h
  · cases h
  · split at h
    · cases h
    · split at h
      · cases h
      · split at h
        · cases h
        · rename_i h1 h2 h3 h4
          simp only [Bool.not_eq_false] at h1 h3 h4
          have h1 := inB_t.1 h1; have h3 := inB_t.1 h3; have h4 := inB_t.1 h4
          exact ⟨⟨h1.1, h1.2, h3.1, by omega, h4.1, h4.2⟩, by simpa using h2⟩
/-- Numbers that rise. -/
def Rises : Option Int → List Line → Prop
  | _, [] => True
  | prev, x :: xs => prev.any (fun y => decide (x.no ≤ y)) = false ∧ Rises (some x.no) xs
theorem linesErr_zero {c : Code} {m : Int} : ∀ {l : List Line} {prev : Option Int}, c.linesErr m prev l = 0 → (∀ x ∈ l, LineOk c m x) ∧ Rises prev l
  | [], _, _ => ⟨by simp, trivial⟩
  | x :: xs, prev, h => by
    unfold Code.linesErr at h
    split at h
    · rename_i hne; exact absurd h hne
    · rename_i hz
      have hz : c.lineErr m prev x = 0 := by simpa using hz
      obtain ⟨h1, h2⟩ := lineErr_zero hz
      obtain ⟨h3, h4⟩ := linesErr_zero h
      refine ⟨fun y hy => ?_, h2, h4⟩
      rcases List.mem_cons.1 hy with rfl | hy
      · exact h1
      · exact h3 y hy
structure Sheet.Ok (c : Code) (s : Sheet) : Prop where
  l1 : 1 ≤ s.lines
  l2 : s.lines ≤ 12
  line : ∀ x ∈ s.kept, LineOk c s.lines x
  rises : Rises none s.kept
  lost3 : s.lost.length ≤ 3
theorem Sheet.ok_of_err {c : Code} {s : Sheet} (h : s.err c = 0) : s.Ok c := by
  unfold Sheet.err at h
  split at h
  · cases h
  · split at h
    · rename_i h1; exact absurd h h1
    · split at h
      · rename_i h1 h2 h3
        simp only [Bool.not_eq_false] at h1
        have h1 := inB_t.1 h1
        obtain ⟨h4, h5⟩ := linesErr_zero (c := c) (m := s.lines) (l := s.kept) (prev := none) (by simpa using h2)
        exact ⟨h1.1, h1.2, h4, h5, h3⟩
      · cases h
/-- Does a line fit a test? -/
def lineFits (c : Code) (t : List Int) (x : Line) : Bool := decide (t.getD (x.no - 1).toNat 0 = x.what) && decide (c.total (t.take x.no.toNat) = x.sum)
def fits (c : Code) (s : Sheet) (t : List Int) : Bool := decide ((t.length : Int) = s.lines) && s.kept.all (lineFits c t)
theorem fits_len {c : Code} {s : Sheet} {t : List Int} (h : (t.length : Int) ≠ s.lines) : fits c s t = false := by simp [fits, h]
theorem fits_no {c : Code} {s : Sheet} {t : List Int} {k : Nat} (hk : k < s.kept.length) (h : lineFits c t s.kept[k] = false) : fits c s t = false := by
  have : s.kept.all (lineFits c t) = false := by rw [List.all_eq_false]; exact ⟨_, List.getElem_mem hk, by simp [h]⟩
  simp [fits, this]
theorem fits_yes {c : Code} {s : Sheet} {t : List Int} (hl : (t.length : Int) = s.lines) (h : ∀ j (hj : j < s.kept.length), lineFits c t s.kept[j] = true) : fits c s t = true := by
  have : s.kept.all (lineFits c t) = true := by
    rw [List.all_eq_true]; intro x hx
    obtain ⟨j, hj, rfl⟩ := List.mem_iff_getElem.1 hx
    exact h j hj
  simp [fits, hl, this]
end Go.Bp
end
section
set_option maxRecDepth 100000
set_option linter.unusedSimpArgs false
set_option linter.unusedVariables false
namespace Go.Bp
open Go.RowKit Go.Proofs
set_option maxHeartbeats 3000000 in
theorem RFit_any (cv sv tv : Value) (c : Code) (s : Sheet) (t : List Int) (w : World) (h : CodeV w cv c) (hsv : SheetV w sv s) (htv : Ints w tv t) (ho : c.Ok) (hs : s.Ok c) (ht : c.TestOk t) :
    Calls Tryz.prog 45 #[cv, sv, tv] w fun e w' => e = .returned (.bool (fits c s t)) ∧ Ext w w' := by
  obtain ⟨fv, mv, rfl, hF, hM, hW⟩ := h
  obtain ⟨kv, rfl, hK⟩ := hsv
  have hT := htv
  obtain ⟨A, cp, rfl, h1, h2, h3, h4⟩ := hK
  have hK : Lines w (.slice A s.kept.length cp) s.kept := ⟨A, cp, rfl, h1, h2, h3, h4⟩
  obtain ⟨A', cp', rfl, h1', h2', h3', h4'⟩ := htv
  unfold maxLen at h2 h2'
  clear h3 h3'
  have hE := Ext.refl w
  have HW := Lib.hid hW
  have Ho := Lib.hid ho
  have Hs := Lib.hid hs
  have Ht := Lib.hid ht
  have hl12 := ht.1
  have hs1 := hs.l1
  have hs2 := hs.l2
  clear hW ho hs ht
  by_cases hlen : (t.length : Int) = s.lines
  · have q0 : ((t.length : Int) != s.lines) = false := by simp [hlen]
    have Hlen := Lib.hid hlen
    have hln : s.lines ≤ t.length := by omega
    clear hlen
    go_enter Tryz.func45, Tryz.ntmps45
    go_wp2_with (first | ((with_reducible refine q_box (d := some 3) ?_); intro W3 g3 hE3 hB3 hg3; simp [Act.eval, Act.put, Value.cells] at hB3; (try replace hE := hE.trans hE3); (try replace hF := hF.ext hE3); (try replace hM := hM.ext hE3); (try replace hK := hK.ext hE3); (try replace hT := hT.ext hE3); (try replace hB3 := hB3.ext hE3); (try replace hB4 := hB4.ext hE3); (try replace hb3_0 := Ext.cell_some hE3 hb3_0); (try replace hb3_1 := Ext.cell_some hE3 hb3_1); (try replace hb3_2 := Ext.cell_some hE3 hb3_2); (try replace hb4_0 := Ext.cell_some hE3 hb4_0); (try replace hb4_1 := Ext.cell_some hE3 hb4_1); have hb3_0 := hB3.cell 0; have hb3_1 := hB3.cell 1; have hb3_2 := hB3.cell 2; simp at hb3_0 hb3_1 hb3_2; clear hE3) | ((with_reducible refine q_box (d := some 4) ?_); intro W4 g4 hE4 hB4 hg4; simp [Act.eval, Act.put, Value.cells] at hB4; (try replace hE := hE.trans hE4); (try replace hF := hF.ext hE4); (try replace hM := hM.ext hE4); (try replace hK := hK.ext hE4); (try replace hT := hT.ext hE4); (try replace hB3 := hB3.ext hE4); (try replace hB4 := hB4.ext hE4); (try replace hb3_0 := Ext.cell_some hE4 hb3_0); (try replace hb3_1 := Ext.cell_some hE4 hb3_1); (try replace hb3_2 := Ext.cell_some hE4 hb3_2); (try replace hb4_0 := Ext.cell_some hE4 hb4_0); (try replace hb4_1 := Ext.cell_some hE4 hb4_1); have hb4_0 := hB4.cell 0; have hb4_1 := hB4.cell 1; simp at hb4_0 hb4_1; clear hE4))
    go_loopw [7] (fun i wr => Ext W4 wr ∧ ∃ k : Nat, k ≤ s.kept.length ∧ i = .int .i64 k ∧ ∀ j (hj : j < s.kept.length), j < k → lineFits c t s.kept[j] = true) (fun i _ => s.kept.length - (intOf i).toNat)
    case atStart => exact ⟨Ext.refl _, 0, by omega, rfl, by omega⟩
    case round =>
      obtain ⟨hEr, k, hk, rfl, hfi⟩ := hrel
      (try replace hE := hE.trans hEr); (try replace hF := hF.ext hEr); (try replace hM := hM.ext hEr); (try replace hK := hK.ext hEr); (try replace hT := hT.ext hEr); (try replace hB3 := hB3.ext hEr); (try replace hB4 := hB4.ext hEr); (try replace hb3_0 := Ext.cell_some hEr hb3_0); (try replace hb3_1 := Ext.cell_some hEr hb3_1); (try replace hb3_2 := Ext.cell_some hEr hb3_2); (try replace hb4_0 := Ext.cell_some hEr hb4_0); (try replace hb4_1 := Ext.cell_some hEr hb4_1)
      have Hfi := Lib.hid hfi
      clear hfi
      by_cases hlt : k < s.kept.length
      · obtain ⟨ad, rfl, hc⟩ := h4 (by omega)
        obtain ⟨ad', rfl, hc'⟩ := h4' (by omega)
        replace hc := hc.ext hE
        replace hc' := hc'.ext hE
        have hlo := Hs.out.line _ (List.getElem_mem hlt)
        have b1 := hlo.no1
        have b2 := hlo.no2
        obtain ⟨n, hn⟩ := Int.eq_ofNat_of_zero_le (a := s.kept[k].no) (by omega)
        have hn1 : n - 1 < t.length := by omega
        have eS := ld_l hc hlt
        rw [hn] at eS b1 b2
        have eT := hc'.i hn1
        have hgd : t.getD (s.kept[k].no - 1).toNat 0 = t[n - 1] := by
          have : (s.kept[k].no - 1).toNat = n - 1 := by omega
          rw [this]; simp [List.getD, hn1]
        have hnn : s.kept[k].no.toNat = n := by omega
        have Hn := Lib.hid hn
        have Hnn := Lib.hid hnn
        have z1 : IntKind.i64.wrap ((n : Int) - 1) = (n : Int) - 1 := IntWalk.i64_in _ (by omega)
        have z3 : (n : Int) - 1 < (t.length : Int) := by omega
        have z4 : ((n : Int) - 1).toNat = n - 1 := by omega
        have z5 : (n : Int) ≤ (t.length : Int) := by omega
        have z6 : (n : Int) ≤ (cp' : Int) := by omega
        have z7 : (0 : Int) ≤ (n : Int) := by omega
        clear h4 h4' hc hc' hlo hn hnn
        by_cases p1 : t[n - 1] = s.kept[k].what
        · have q1 : (t[n - 1] != s.kept[k].what) = false := by simp [p1]
          have Hp1 := Lib.hid p1
          have htk := Ht.out.take n
          have Htk := Lib.hid htk
          clear p1 htk
          by_cases p2 : c.total (t.take n) = s.kept[k].sum
          · have q2 : (c.total (t.take n) != s.kept[k].sum) = false := by simp [p2]
            have hf : lineFits c t s.kept[k] = true := by simp only [lineFits, hgd, Hnn.out, Hp1.out, p2]; simp
            have Hf := Lib.hid hf
            clear hf p2 hgd
            go_wp2_with (first | ((with_reducible refine q_load (d := some 25) (hl := eS) ?_ ?_); rfl) | ((with_reducible refine q_newvar (e := 99) (u := 8) (v := .agg #[.int .i64 n, .int .i64 s.kept[k].what, .int .i64 s.kept[k].sum]) ti99 ?_ ?_ ?_ ?_ ?_ ?_); (intro g; rfl); (intro g; rfl); rfl; rfl; (simp [Value.cells, Value.oneCell']); intro W8 g8 hE8 hB8 hg8; simp [Value.cells] at hB8; (try replace hE := hE.trans hE8); (try replace hEr := hEr.trans hE8); (try replace hF := hF.ext hE8); (try replace hM := hM.ext hE8); (try replace hK := hK.ext hE8); (try replace hT := hT.ext hE8); (try replace hB3 := hB3.ext hE8); (try replace hB4 := hB4.ext hE8); (try replace hb3_0 := Ext.cell_some hE8 hb3_0); (try replace hb3_1 := Ext.cell_some hE8 hb3_1); (try replace hb3_2 := Ext.cell_some hE8 hb3_2); (try replace hb4_0 := Ext.cell_some hE8 hb4_0); (try replace hb4_1 := Ext.cell_some hE8 hb4_1); (try replace eT := Ext.cell_some hE8 eT); have hb8_0 := hB8.cell 0; have hb8_1 := hB8.cell 1; have hb8_2 := hB8.cell 2; simp at hb8_0 hb8_1 hb8_2; clear hE8) | ((with_reducible refine q_box (d := some 3) ?_); intro W3 g3 hE3 hB3 hg3; simp [Act.eval, Act.put, Value.cells] at hB3; (try replace hE := hE.trans hE3); (try replace hEr := hEr.trans hE3); (try replace hF := hF.ext hE3); (try replace hM := hM.ext hE3); (try replace hK := hK.ext hE3); (try replace hT := hT.ext hE3); (try replace hB3 := hB3.ext hE3); (try replace hB4 := hB4.ext hE3); (try replace hb3_0 := Ext.cell_some hE3 hb3_0); (try replace hb3_1 := Ext.cell_some hE3 hb3_1); (try replace hb3_2 := Ext.cell_some hE3 hb3_2); (try replace hb4_0 := Ext.cell_some hE3 hb4_0); (try replace hb4_1 := Ext.cell_some hE3 hb4_1); (try replace eT := Ext.cell_some hE3 eT); have hb3_0 := hB3.cell 0; have hb3_1 := hB3.cell 1; have hb3_2 := hB3.cell 2; simp at hb3_0 hb3_1 hb3_2; clear hE3) | ((with_reducible refine q_box (d := some 4) ?_); intro W4 g4 hE4 hB4 hg4; simp [Act.eval, Act.put, Value.cells] at hB4; (try replace hE := hE.trans hE4); (try replace hEr := hEr.trans hE4); (try replace hF := hF.ext hE4); (try replace hM := hM.ext hE4); (try replace hK := hK.ext hE4); (try replace hT := hT.ext hE4); (try replace hB3 := hB3.ext hE4); (try replace hB4 := hB4.ext hE4); (try replace hb3_0 := Ext.cell_some hE4 hb3_0); (try replace hb3_1 := Ext.cell_some hE4 hb3_1); (try replace hb3_2 := Ext.cell_some hE4 hb3_2); (try replace hb4_0 := Ext.cell_some hE4 hb4_0); (try replace hb4_1 := Ext.cell_some hE4 hb4_1); (try replace eT := Ext.cell_some hE4 eT); have hb4_0 := hB4.cell 0; have hb4_1 := hB4.cell 1; simp at hb4_0 hb4_1; clear hE4))
            go_region_held3 (fun w' => w'.cell? ⟨g3, 0, none⟩ = some (fv) ∧ w'.cell? ⟨g3, 1, none⟩ = some (mv) ∧ w'.cell? ⟨g3, 2, none⟩ = some (.int .i64 c.all) ∧ w'.cell? (ad'.add (n - 1)) = some (.int .i64 t[n - 1]) ∧ w'.cell? ((⟨g8, 0, none⟩)) = some (.int .i64 n) ∧ w'.cell? ((⟨g8, 1, none⟩)) = some (.int .i64 s.kept[k].what) ∧ w'.cell? ((⟨g8, 2, none⟩)) = some (.int .i64 s.kept[k].sum)) (simp [*]) ((first | (go_at_call 63; ((with_reducible refine (Total_ok _ _ c (t.take n) _ (by first | exact CodeV.of hF hM HW.out | exact (CodeV.of hF hM HW.out).d) (by first | exact hT.cut (by omega) | exact (hT.cut (by omega)).d) Ho.out Htk.out).mono ?_); rintro e Wc1 ⟨rfl, hEc1⟩; (try replace hEc1 := Ext.undrew hEc1); (try replace hE := hE.trans hEc1); (try replace hEr := hEr.trans hEc1); (try replace hF := hF.ext hEc1); (try replace hM := hM.ext hEc1); (try replace hK := hK.ext hEc1); (try replace hT := hT.ext hEc1); (try replace hB3 := hB3.ext hEc1); (try replace hB4 := hB4.ext hEc1); (try replace hB8 := hB8.ext hEc1); (try replace hb3_0 := Ext.cell_some hEc1 hb3_0); (try replace hb3_1 := Ext.cell_some hEc1 hb3_1); (try replace hb3_2 := Ext.cell_some hEc1 hb3_2); (try replace hb4_0 := Ext.cell_some hEc1 hb4_0); (try replace hb4_1 := Ext.cell_some hEc1 hb4_1); (try replace eT := Ext.cell_some hEc1 eT); (try replace hb8_0 := Ext.cell_some hEc1 hb8_0); (try replace hb8_1 := Ext.cell_some hEc1 hb8_1); (try replace hb8_2 := Ext.cell_some hEc1 hb8_2)))))
            go_wp2
            go_roundw
            case rel => exact ⟨hEr, k + 1, by omega, by go_num, fun j hj hjk => by by_cases e : j = k; · subst e; exact Hf.out
                                                                                   · exact Hfi.out j hj (by omega)⟩
            case measure => simp [intOf]; omega
          · have q2 : (c.total (t.take n) != s.kept[k].sum) = true := by simp [p2]
            have hf : lineFits c t s.kept[k] = false := by simp only [lineFits, hgd, Hnn.out, Hp1.out]; simp [p2]
            have Hf := Lib.hid (fits_no hlt hf)
            clear hf p2 hgd
            go_wp2_with (first | ((with_reducible refine q_load (d := some 25) (hl := eS) ?_ ?_); rfl) | ((with_reducible refine q_newvar (e := 99) (u := 8) (v := .agg #[.int .i64 n, .int .i64 s.kept[k].what, .int .i64 s.kept[k].sum]) ti99 ?_ ?_ ?_ ?_ ?_ ?_); (intro g; rfl); (intro g; rfl); rfl; rfl; (simp [Value.cells, Value.oneCell']); intro W8 g8 hE8 hB8 hg8; simp [Value.cells] at hB8; (try replace hE := hE.trans hE8); (try replace hEr := hEr.trans hE8); (try replace hF := hF.ext hE8); (try replace hM := hM.ext hE8); (try replace hK := hK.ext hE8); (try replace hT := hT.ext hE8); (try replace hB3 := hB3.ext hE8); (try replace hB4 := hB4.ext hE8); (try replace hB8 := hB8.ext hE8); (try replace hb3_0 := Ext.cell_some hE8 hb3_0); (try replace hb3_1 := Ext.cell_some hE8 hb3_1); (try replace hb3_2 := Ext.cell_some hE8 hb3_2); (try replace hb4_0 := Ext.cell_some hE8 hb4_0); (try replace hb4_1 := Ext.cell_some hE8 hb4_1); (try replace eT := Ext.cell_some hE8 eT); (try replace hb8_0 := Ext.cell_some hE8 hb8_0); (try replace hb8_1 := Ext.cell_some hE8 hb8_1); (try replace hb8_2 := Ext.cell_some hE8 hb8_2); have hb8_0 := hB8.cell 0; have hb8_1 := hB8.cell 1; have hb8_2 := hB8.cell 2; simp at hb8_0 hb8_1 hb8_2; clear hE8) | ((with_reducible refine q_box (d := some 3) ?_); intro W3 g3 hE3 hB3 hg3; simp [Act.eval, Act.put, Value.cells] at hB3; (try replace hE := hE.trans hE3); (try replace hEr := hEr.trans hE3); (try replace hF := hF.ext hE3); (try replace hM := hM.ext hE3); (try replace hK := hK.ext hE3); (try replace hT := hT.ext hE3); (try replace hB3 := hB3.ext hE3); (try replace hB4 := hB4.ext hE3); (try replace hB8 := hB8.ext hE3); (try replace hb3_0 := Ext.cell_some hE3 hb3_0); (try replace hb3_1 := Ext.cell_some hE3 hb3_1); (try replace hb3_2 := Ext.cell_some hE3 hb3_2); (try replace hb4_0 := Ext.cell_some hE3 hb4_0); (try replace hb4_1 := Ext.cell_some hE3 hb4_1); (try replace eT := Ext.cell_some hE3 eT); (try replace hb8_0 := Ext.cell_some hE3 hb8_0); (try replace hb8_1 := Ext.cell_some hE3 hb8_1); (try replace hb8_2 := Ext.cell_some hE3 hb8_2); have hb3_0 := hB3.cell 0; have hb3_1 := hB3.cell 1; have hb3_2 := hB3.cell 2; simp at hb3_0 hb3_1 hb3_2; clear hE3) | ((with_reducible refine q_box (d := some 4) ?_); intro W4 g4 hE4 hB4 hg4; simp [Act.eval, Act.put, Value.cells] at hB4; (try replace hE := hE.trans hE4); (try replace hEr := hEr.trans hE4); (try replace hF := hF.ext hE4); (try replace hM := hM.ext hE4); (try replace hK := hK.ext hE4); (try replace hT := hT.ext hE4); (try replace hB3 := hB3.ext hE4); (try replace hB4 := hB4.ext hE4); (try replace hB8 := hB8.ext hE4); (try replace hb3_0 := Ext.cell_some hE4 hb3_0); (try replace hb3_1 := Ext.cell_some hE4 hb3_1); (try replace hb3_2 := Ext.cell_some hE4 hb3_2); (try replace hb4_0 := Ext.cell_some hE4 hb4_0); (try replace hb4_1 := Ext.cell_some hE4 hb4_1); (try replace eT := Ext.cell_some hE4 eT); (try replace hb8_0 := Ext.cell_some hE4 hb8_0); (try replace hb8_1 := Ext.cell_some hE4 hb8_1); (try replace hb8_2 := Ext.cell_some hE4 hb8_2); have hb4_0 := hB4.cell 0; have hb4_1 := hB4.cell 1; simp at hb4_0 hb4_1; clear hE4))
            go_region_held3 (fun w' => w'.cell? ⟨g3, 0, none⟩ = some (fv) ∧ w'.cell? ⟨g3, 1, none⟩ = some (mv) ∧ w'.cell? ⟨g3, 2, none⟩ = some (.int .i64 c.all) ∧ w'.cell? (ad'.add (n - 1)) = some (.int .i64 t[n - 1]) ∧ w'.cell? ((⟨g8, 0, none⟩)) = some (.int .i64 n) ∧ w'.cell? ((⟨g8, 1, none⟩)) = some (.int .i64 s.kept[k].what) ∧ w'.cell? ((⟨g8, 2, none⟩)) = some (.int .i64 s.kept[k].sum)) (simp [*]) ((first | (go_at_call 63; ((with_reducible refine (Total_ok _ _ c (t.take n) _ (by first | exact CodeV.of hF hM HW.out | exact (CodeV.of hF hM HW.out).d) (by first | exact hT.cut (by omega) | exact (hT.cut (by omega)).d) Ho.out Htk.out).mono ?_); rintro e Wc2 ⟨rfl, hEc2⟩; (try replace hEc2 := Ext.undrew hEc2); (try replace hE := hE.trans hEc2); (try replace hEr := hEr.trans hEc2); (try replace hF := hF.ext hEc2); (try replace hM := hM.ext hEc2); (try replace hK := hK.ext hEc2); (try replace hT := hT.ext hEc2); (try replace hB3 := hB3.ext hEc2); (try replace hB4 := hB4.ext hEc2); (try replace hB8 := hB8.ext hEc2); (try replace hb3_0 := Ext.cell_some hEc2 hb3_0); (try replace hb3_1 := Ext.cell_some hEc2 hb3_1); (try replace hb3_2 := Ext.cell_some hEc2 hb3_2); (try replace hb4_0 := Ext.cell_some hEc2 hb4_0); (try replace hb4_1 := Ext.cell_some hEc2 hb4_1); (try replace eT := Ext.cell_some hEc2 eT); (try replace hb8_0 := Ext.cell_some hEc2 hb8_0); (try replace hb8_1 := Ext.cell_some hEc2 hb8_1); (try replace hb8_2 := Ext.cell_some hEc2 hb8_2)))))
            go_wp2
            go_ret
            exact ⟨ret_b Hf.out.symm, hE⟩
        · have q1 : (t[n - 1] != s.kept[k].what) = true := by simp [p1]
          have hf : lineFits c t s.kept[k] = false := by simp only [lineFits, hgd]; simp [p1]
          have Hf := Lib.hid (fits_no hlt hf)
          clear hf p1 hgd
          go_wp2_with (first | ((with_reducible refine q_load (d := some 25) (hl := eS) ?_ ?_); rfl) | ((with_reducible refine q_newvar (e := 99) (u := 8) (v := .agg #[.int .i64 n, .int .i64 s.kept[k].what, .int .i64 s.kept[k].sum]) ti99 ?_ ?_ ?_ ?_ ?_ ?_); (intro g; rfl); (intro g; rfl); rfl; rfl; (simp [Value.cells, Value.oneCell']); intro W8 g8 hE8 hB8 hg8; simp [Value.cells] at hB8; (try replace hE := hE.trans hE8); (try replace hEr := hEr.trans hE8); (try replace hF := hF.ext hE8); (try replace hM := hM.ext hE8); (try replace hK := hK.ext hE8); (try replace hT := hT.ext hE8); (try replace hB3 := hB3.ext hE8); (try replace hB4 := hB4.ext hE8); (try replace hB8 := hB8.ext hE8); (try replace hb3_0 := Ext.cell_some hE8 hb3_0); (try replace hb3_1 := Ext.cell_some hE8 hb3_1); (try replace hb3_2 := Ext.cell_some hE8 hb3_2); (try replace hb4_0 := Ext.cell_some hE8 hb4_0); (try replace hb4_1 := Ext.cell_some hE8 hb4_1); (try replace eT := Ext.cell_some hE8 eT); (try replace hb8_0 := Ext.cell_some hE8 hb8_0); (try replace hb8_1 := Ext.cell_some hE8 hb8_1); (try replace hb8_2 := Ext.cell_some hE8 hb8_2); have hb8_0 := hB8.cell 0; have hb8_1 := hB8.cell 1; have hb8_2 := hB8.cell 2; simp at hb8_0 hb8_1 hb8_2; clear hE8) | ((with_reducible refine q_box (d := some 3) ?_); intro W3 g3 hE3 hB3 hg3; simp [Act.eval, Act.put, Value.cells] at hB3; (try replace hE := hE.trans hE3); (try replace hEr := hEr.trans hE3); (try replace hF := hF.ext hE3); (try replace hM := hM.ext hE3); (try replace hK := hK.ext hE3); (try replace hT := hT.ext hE3); (try replace hB3 := hB3.ext hE3); (try replace hB4 := hB4.ext hE3); (try replace hB8 := hB8.ext hE3); (try replace hb3_0 := Ext.cell_some hE3 hb3_0); (try replace hb3_1 := Ext.cell_some hE3 hb3_1); (try replace hb3_2 := Ext.cell_some hE3 hb3_2); (try replace hb4_0 := Ext.cell_some hE3 hb4_0); (try replace hb4_1 := Ext.cell_some hE3 hb4_1); (try replace eT := Ext.cell_some hE3 eT); (try replace hb8_0 := Ext.cell_some hE3 hb8_0); (try replace hb8_1 := Ext.cell_some hE3 hb8_1); (try replace hb8_2 := Ext.cell_some hE3 hb8_2); have hb3_0 := hB3.cell 0; have hb3_1 := hB3.cell 1; have hb3_2 := hB3.cell 2; simp at hb3_0 hb3_1 hb3_2; clear hE3) | ((with_reducible refine q_box (d := some 4) ?_); intro W4 g4 hE4 hB4 hg4; simp [Act.eval, Act.put, Value.cells] at hB4; (try replace hE := hE.trans hE4); (try replace hEr := hEr.trans hE4); (try replace hF := hF.ext hE4); (try replace hM := hM.ext hE4); (try replace hK := hK.ext hE4); (try replace hT := hT.ext hE4); (try replace hB3 := hB3.ext hE4); (try replace hB4 := hB4.ext hE4); (try replace hB8 := hB8.ext hE4); (try replace hb3_0 := Ext.cell_some hE4 hb3_0); (try replace hb3_1 := Ext.cell_some hE4 hb3_1); (try replace hb3_2 := Ext.cell_some hE4 hb3_2); (try replace hb4_0 := Ext.cell_some hE4 hb4_0); (try replace hb4_1 := Ext.cell_some hE4 hb4_1); (try replace eT := Ext.cell_some hE4 eT); (try replace hb8_0 := Ext.cell_some hE4 hb8_0); (try replace hb8_1 := Ext.cell_some hE4 hb8_1); (try replace hb8_2 := Ext.cell_some hE4 hb8_2); have hb4_0 := hB4.cell 0; have hb4_1 := hB4.cell 1; simp at hb4_0 hb4_1; clear hE4))
          refine wp_region_quiet_lit (by kernel_rfl) (by kernel_rfl) ?_
          repeat (any_goals (first | go_big_quiet_step (fail) | quiet_step (fail)))
          refine wpQuiet_nil ?_
          intro _ hw'
          obtain ⟨nq, hw''⟩ := hw'
          subst hw''
          go_wp2
          go_ret
          exact ⟨ret_b Hf.out.symm, hE.drewN _⟩
      · obtain rfl : k = s.kept.length := by omega
        have hf := fits_yes (c := c) Hlen.out (fun j hj => Hfi.out j hj hj)
        have Hf := Lib.hid hf
        clear hf h4 h4'
        go_wp2
        go_ret
        exact ⟨ret_b Hf.out.symm, hE⟩
  · have q0 : ((t.length : Int) != s.lines) = true := by rw [bne_iff_ne]; exact hlen
    have hf := fits_len (c := c) hlen
    have Hf := Lib.hid hf
    clear hf hlen h4 h4'
    go_enter Tryz.func45, Tryz.ntmps45
    go_wp2_with (first | ((with_reducible refine q_box (d := some 3) ?_); intro W3 g3 hE3 hB3 hg3; simp [Act.eval, Act.put, Value.cells] at hB3; (try replace hE := hE.trans hE3); (try replace hEr := hEr.trans hE3); (try replace hF := hF.ext hE3); (try replace hM := hM.ext hE3); (try replace hK := hK.ext hE3); (try replace hT := hT.ext hE3); (try replace hB3 := hB3.ext hE3); (try replace hB4 := hB4.ext hE3); (try replace hB8 := hB8.ext hE3); (try replace hb3_0 := Ext.cell_some hE3 hb3_0); (try replace hb3_1 := Ext.cell_some hE3 hb3_1); (try replace hb3_2 := Ext.cell_some hE3 hb3_2); (try replace hb4_0 := Ext.cell_some hE3 hb4_0); (try replace hb4_1 := Ext.cell_some hE3 hb4_1); (try replace eT := Ext.cell_some hE3 eT); (try replace hb8_0 := Ext.cell_some hE3 hb8_0); (try replace hb8_1 := Ext.cell_some hE3 hb8_1); (try replace hb8_2 := Ext.cell_some hE3 hb8_2); have hb3_0 := hB3.cell 0; have hb3_1 := hB3.cell 1; have hb3_2 := hB3.cell 2; simp at hb3_0 hb3_1 hb3_2; clear hE3) | ((with_reducible refine q_box (d := some 4) ?_); intro W4 g4 hE4 hB4 hg4; simp [Act.eval, Act.put, Value.cells] at hB4; (try replace hE := hE.trans hE4); (try replace hEr := hEr.trans hE4); (try replace hF := hF.ext hE4); (try replace hM := hM.ext hE4); (try replace hK := hK.ext hE4); (try replace hT := hT.ext hE4); (try replace hB3 := hB3.ext hE4); (try replace hB4 := hB4.ext hE4); (try replace hB8 := hB8.ext hE4); (try replace hb3_0 := Ext.cell_some hE4 hb3_0); (try replace hb3_1 := Ext.cell_some hE4 hb3_1); (try replace hb3_2 := Ext.cell_some hE4 hb3_2); (try replace hb4_0 := Ext.cell_some hE4 hb4_0); (try replace hb4_1 := Ext.cell_some hE4 hb4_1); (try replace eT := Ext.cell_some hE4 eT); (try replace hb8_0 := Ext.cell_some hE4 hb8_0); (try replace hb8_1 := Ext.cell_some hE4 hb8_1); (try replace hb8_2 := Ext.cell_some hE4 hb8_2); have hb4_0 := hB4.cell 0; have hb4_1 := hB4.cell 1; simp at hb4_0 hb4_1; clear hE4))
    go_ret
    exact ⟨ret_b Hf.out.symm, hE⟩
end Go.Bp
end
section
/- Drawn regions that only read: steps of my own; structs compared. -/
set_option maxRecDepth 100000
namespace Go.Bp
open Go.RowKit Go.Proofs
section
variable {P : Program} {ops : Array Oper} {Q : Act → Prop} {a : Act} {w : World} {rest : List Oper}
variable {d : Option Tmp} {ty : TypeId} {pos : String} {after : Array Edge}
theorem qq_val {o : Oper} (hg : o.guard = none) {v : Value} (h : ∀ n, (execOp a.eval o).run P (w.drewN n) = .ok (.value v) (w.drewN n))
    (k : wpQuiet P ops (fun w' => ∃ n, w' = w.drewN n) Q rest (a.put o.dst v)) : wpQuiet P ops (fun w' => ∃ n, w' = w.drewN n) Q (o :: rest) a := by
  refine wpQuiet_step fun K hK => ?_
  simp only [Region.wanted, hg, if_true]
  refine ⟨v, ?_, hK _ k⟩
  rintro w' ⟨n, rfl⟩
  unfold Oper.quietAt
  rw [h n]
  exact ⟨rfl, rfl⟩
theorem qq_load {t : TypeId} {x : Operand} {p : Addr} {v : Value} (hl : ∀ W, Ext w W → (loadVar t p).run P W = .ok v W) (hx : a.eval x = .pointer (some p))
    (k : wpQuiet P ops (fun w' => ∃ n, w' = w.drewN n) Q rest (a.put d v)) : wpQuiet P ops (fun w' => ∃ n, w' = w.drewN n) Q (⟨d, .load t x, ty, pos, after, none⟩ :: rest) a :=
  qq_val rfl (fun n => by simp [execOp, Instr.loadAt, hx, Instr.sureAddr, hl _ ((Ext.refl w).drewN n)]) k
end
theorem eqg99 : Tryz.prog.eqGuardType Tryz.prog.depth 99 = false := by kernel_rfl
theorem sto99 : Tryz.prog.stoodInHeld 99 = false := by kernel_rfl
theorem und99 : Tryz.prog.underlying 99 = some (.struct (Tryz.prog.fieldsOf 99)) := by kernel_rfl
theorem neq_line (w : World) (x y : Operand) (a b c a' b' c' : Int) :
    (do eqGuard .neq 99 x y (.agg #[.int .i64 a, .int .i64 b, .int .i64 c]) (.agg #[.int .i64 a', .int .i64 b', .int .i64 c']); binOp .neq 99 (.agg #[.int .i64 a, .int .i64 b, .int .i64 c]) (.agg #[.int .i64 a', .int .i64 b', .int .i64 c']) : Sem Value).run Tryz.prog w =
      .ok (.bool (!(decide (a = a' ∧ b = b' ∧ c = c')))) w := by
  rw [Sem.run_bind, run_eqGuard_agg w _ _ _ _ _ _ eqg99, Result.andThen_ok, run_neq_struct, run_equalIn_struct w 9999 99 _ _ und99 sto99]
  have hf : (Tryz.prog.fieldsOf 99).toList.map (fun f => (f.name, f.type, f.offset)) = [("No", 3, 0), ("What", 3, 1), ("Sum", 3, 2)] := by kernel_rfl
  generalize (Tryz.prog.fieldsOf 99).toList = l at hf ⊢
  have hl : l.length = 3 := by have := congrArg List.length hf; simpa using this
  obtain ⟨f0, f1, f2, rfl⟩ : ∃ f0 f1 f2, l = [f0, f1, f2] := by
    rcases l with _ | ⟨f0, _ | ⟨f1, _ | ⟨f2, _ | ⟨f3, l⟩⟩⟩⟩ <;> simp at hl
    exact ⟨f0, f1, f2, rfl⟩
  simp only [List.map_cons, List.map_nil, List.cons.injEq, Prod.mk.injEq, and_true] at hf
  obtain ⟨⟨n0, t0, o0⟩, ⟨n1, t1, o1⟩, ⟨n2, t2, o2⟩⟩ := hf
  by_cases e0 : a = a' <;> by_cases e1 : b = b' <;> by_cases e2 : c = c' <;>
    simp [Op.eqFields, n0, n1, n2, t0, t1, t2, o0, o1, o2, part, isAgg, run_underlying Tryz.underlying3, run_equalIn_int w 9998 3 .i64 .i64 _ _ Tryz.underlying3, e0, e1, e2]
section
variable {ops : Array Oper} {Q : Act → Prop} {t : Act} {w : World} {rest : List Oper}
variable {d : Option Tmp} {ty ty' : TypeId} {pos : String} {after : Array Edge}
theorem qq_neqL {x y : Operand} {a b c a' b' c' : Int} {r : Bool} (hr : decide (a = a' ∧ b = b' ∧ c = c') = !r) (hx : t.eval x = .agg #[.int .i64 a, .int .i64 b, .int .i64 c]) (hy : t.eval y = .agg #[.int .i64 a', .int .i64 b', .int .i64 c'])
    (k : wpQuiet Tryz.prog ops (fun w' => ∃ n, w' = w.drewN n) Q rest (t.put d (.bool r))) : wpQuiet Tryz.prog ops (fun w' => ∃ n, w' = w.drewN n) Q (⟨d, .binOp .neq 99 x y ty', ty, pos, after, none⟩ :: rest) t := by
  refine qq_val rfl (fun n => ?_) k
  have h := neq_line (w.drewN n) x y a b c a' b' c'
  rw [hr, Bool.not_not] at h
  simp only [execOp, hx, hy]
  rw [Sem.run_bind, h]
  rfl
end
end Go.Bp
end
section
/- Plain Lean: lists compared, lines struck. -/
namespace Go.Bp
open Go.RowKit
theorem Line.ext' {x y : Line} (h : x.no = y.no ∧ x.what = y.what ∧ x.sum = y.sum) : x = y := by
  obtain ⟨a, b, c⟩ := x; obtain ⟨d, e, f⟩ := y; simp at h; simp [h]
def sheetsEq (a b : Sheet) : Bool := decide (a.lines = b.lines) && decide (a.kept.length = b.kept.length) && (List.range a.kept.length).all fun i => match a.kept[i]?, b.kept[i]? with | some x, some y => decide (x.no = y.no ∧ x.what = y.what ∧ x.sum = y.sum) | _, _ => false
theorem sheetsEq_iff (a b : Sheet) : sheetsEq a b = true ↔ a = b := by
  unfold sheetsEq
  constructor
  · intro h
    simp only [Bool.and_eq_true, decide_eq_true_eq, List.all_eq_true, List.mem_range] at h
    obtain ⟨⟨h1, h2⟩, h3⟩ := h
    obtain ⟨la, ka⟩ := a
    obtain ⟨lb, kb⟩ := b
    simp only at h1 h2 h3
    subst h1
    congr 1
    apply List.ext_getElem h2
    intro i hi hi'
    have := h3 i hi
    simp only [hi, hi', List.getElem?_eq_getElem, decide_eq_true_eq] at this
    exact Line.ext' this
  · rintro rfl
    simp only [decide_true, Bool.true_and, List.all_eq_true, List.mem_range]
    intro i hi
    simp [hi]
theorem sheetsEq_len {a b : Sheet} (h : a.lines ≠ b.lines ∨ a.kept.length ≠ b.kept.length) : sheetsEq a b = false := by
  unfold sheetsEq
  rcases h with h | h <;> simp [h]
theorem sheetsEq_no {a b : Sheet} {k : Nat} (hk : k < a.kept.length) (hk' : k < b.kept.length) (h : ¬ (a.kept[k].no = b.kept[k].no ∧ a.kept[k].what = b.kept[k].what ∧ a.kept[k].sum = b.kept[k].sum)) : sheetsEq a b = false := by
  cases hq : sheetsEq a b with
  | false => rfl
  | true => rw [sheetsEq_iff] at hq; subst hq; exact absurd ⟨rfl, rfl, rfl⟩ h
theorem sheetsEq_yes {a b : Sheet} (h1 : a.lines = b.lines) (h2 : a.kept.length = b.kept.length) (h3 : ∀ i (hi : i < a.kept.length) (hi' : i < b.kept.length), a.kept[i].no = b.kept[i].no ∧ a.kept[i].what = b.kept[i].what ∧ a.kept[i].sum = b.kept[i].sum) : sheetsEq a b = true := by
  rw [sheetsEq_iff]
  obtain ⟨la, ka⟩ := a
  obtain ⟨lb, kb⟩ := b
  simp only at h1 h2 h3
  subst h1
  congr 1
  exact List.ext_getElem h2 fun i hi hi' => Line.ext' (h3 i hi hi')
/-- The lines that stay, from number k + 1 on. -/
def leftTo (_c : Code) (t lines : List Int) (k : Nat) : List Int := ((List.range k).filter fun i : Nat => !(hasB lines ((i : Int) + 1))).map fun i => t.getD i 0
def faultsTo (c : Code) (t lines : List Int) (k : Nat) : Bool := (List.range k).all fun i : Nat => !(hasB lines ((i : Int) + 1)) || decide (t.getD i 0 < c.faults.length)
def without (c : Code) (t lines : List Int) : List Int × Bool := (leftTo c t lines t.length, faultsTo c t lines t.length)
theorem leftTo_succ (c : Code) (t lines : List Int) {k : Nat} (hk : k < t.length) : leftTo c t lines (k + 1) = if hasB lines ((k : Int) + 1) = true then leftTo c t lines k else leftTo c t lines k ++ [t[k]] := by
  unfold leftTo
  rw [List.range_succ, List.filter_append, List.map_append]
  by_cases h : hasB lines ((k : Int) + 1) = true <;> simp [h, hk]
theorem faultsTo_succ (c : Code) (t lines : List Int) {k : Nat} (hk : k < t.length) : faultsTo c t lines (k + 1) = (faultsTo c t lines k && (!(hasB lines ((k : Int) + 1)) || decide (t[k] < c.faults.length))) := by
  unfold faultsTo
  rw [List.range_succ, List.all_append]
  simp [hk]
theorem leftTo_len (c : Code) (t lines : List Int) (k : Nat) : (leftTo c t lines k).length ≤ k := by
  unfold leftTo
  rw [List.length_map]
  have := List.length_filter_le (fun i : Nat => !(hasB lines ((i : Int) + 1))) (List.range k)
  simpa using this
/-- Do two tests have the same on some lines? -/
def sameAt (a b : List Int) (n : Int) : Bool := decide (a.getD (n - 1).toNat 0 = b.getD (n - 1).toNat 0)
def same (a b lines : List Int) : Bool := lines.all (sameAt a b)
theorem same_yes {a b lines : List Int} (h : ∀ x ∈ lines, sameAt a b x = true) : same a b lines = true := by
  unfold same; rw [List.all_eq_true]; exact h
theorem all_take_snoc {α : Type} {p : α → Prop} {l : List α} {k : Nat} (hk : k < l.length) (hb : ∀ x ∈ l.take k, p x) (hp : p l[k]) : ∀ x ∈ l.take (k + 1), p x := by
  intro x hx
  rw [take_snoc _ hk] at hx
  rcases List.mem_append.1 hx with h | h
  · exact hb x h
  · simp at h; rw [h]; exact hp
end Go.Bp
end
section
set_option maxRecDepth 100000
set_option linter.unusedSimpArgs false
set_option linter.unusedVariables false
namespace Go.Bp
open Go.RowKit Go.Proofs
theorem ld_l' {w : World} {ad : Addr} {xs : List Line} {k : Nat} (h : Cells w ad (encL xs)) (hk : k < xs.length) : ∀ W, Ext w W → (loadVar 99 (ad.add (k * 3))).run Tryz.prog W = .ok (.agg #[.int .i64 xs[k].no, .int .i64 xs[k].what, .int .i64 xs[k].sum]) W :=
  fun _ e => ld_l (h.ext e) hk
set_option maxHeartbeats 1000000 in
theorem Sheets_any (av bv : Value) (a b : Sheet) (w : World) (ha : SheetV w av a) (hb : SheetV w bv b) :
    Calls Tryz.prog 27 #[av, bv] w fun e w' => e = .returned (.bool (sheetsEq a b)) ∧ Ext w w' := by
  obtain ⟨kv, rfl, ⟨A, cp, rfl, h1, h2, h3, h4⟩⟩ := ha
  obtain ⟨kv', rfl, ⟨A', cp', rfl, h1', h2', h3', h4'⟩⟩ := hb
  unfold maxLen at h2 h2'
  clear h3 h3'
  have hE := Ext.refl w
  by_cases q1 : a.lines = b.lines
  · have d1 : (a.lines != b.lines) = false := by simp [q1]
    by_cases q2 : a.kept.length = b.kept.length
    · have d2 : ((a.kept.length : Int) != (b.kept.length : Int)) = false := by simp [q2]
      have Q1 := Lib.hid q1
      have Q2 := Lib.hid q2
      have q2' : b.kept.length ≤ a.kept.length := by omega
      have q2'' : a.kept.length ≤ b.kept.length := by omega
      clear q1 q2
      go_enter Tryz.func27, Tryz.ntmps27
      go_wp2_with (first | ((with_reducible refine q_box (d := some 2) ?_); intro W2 g2 hE2 hB2 hg2; simp [Act.eval, Act.put, Value.cells] at hB2; (try replace hE := hE.trans hE2); (try replace hB2 := hB2.ext hE2); (try replace hB3 := hB3.ext hE2); (try replace hb2_0 := Ext.cell_some hE2 hb2_0); (try replace hb2_1 := Ext.cell_some hE2 hb2_1); (try replace hb3_0 := Ext.cell_some hE2 hb3_0); (try replace hb3_1 := Ext.cell_some hE2 hb3_1); have hb2_0 := hB2.cell 0; have hb2_1 := hB2.cell 1; simp at hb2_0 hb2_1; clear hE2) | ((with_reducible refine q_box (d := some 3) ?_); intro W3 g3 hE3 hB3 hg3; simp [Act.eval, Act.put, Value.cells] at hB3; (try replace hE := hE.trans hE3); (try replace hB2 := hB2.ext hE3); (try replace hB3 := hB3.ext hE3); (try replace hb2_0 := Ext.cell_some hE3 hb2_0); (try replace hb2_1 := Ext.cell_some hE3 hb2_1); (try replace hb3_0 := Ext.cell_some hE3 hb3_0); (try replace hb3_1 := Ext.cell_some hE3 hb3_1); have hb3_0 := hB3.cell 0; have hb3_1 := hB3.cell 1; simp at hb3_0 hb3_1; clear hE3))
      go_loopw [5] (fun i wr => Ext W3 wr ∧ ∃ k : Nat, k ≤ a.kept.length ∧ i = .int .i64 k ∧ ∀ j (hj : j < a.kept.length) (hj' : j < b.kept.length), j < k → a.kept[j].no = b.kept[j].no ∧ a.kept[j].what = b.kept[j].what ∧ a.kept[j].sum = b.kept[j].sum) (fun i _ => a.kept.length - (intOf i).toNat)
      case atStart => exact ⟨Ext.refl _, 0, by omega, rfl, by omega⟩
      case round =>
        obtain ⟨hEr, k, hk, rfl, hfi⟩ := hrel
        (try replace hE := hE.trans hEr); (try replace hB2 := hB2.ext hEr); (try replace hB3 := hB3.ext hEr); (try replace hb2_0 := Ext.cell_some hEr hb2_0); (try replace hb2_1 := Ext.cell_some hEr hb2_1); (try replace hb3_0 := Ext.cell_some hEr hb3_0); (try replace hb3_1 := Ext.cell_some hEr hb3_1)
        have Hfi := Lib.hid hfi
        clear hfi
        by_cases hlt : k < a.kept.length
        · obtain ⟨ad, rfl, hc⟩ := h4 (by omega)
          obtain ⟨ad', rfl, hc'⟩ := h4' (by omega)
          replace hc := hc.ext hE
          replace hc' := hc'.ext hE
          have hlt' : k < b.kept.length := by omega
          clear h4 h4'
          by_cases he : a.kept[k].no = b.kept[k].no ∧ a.kept[k].what = b.kept[k].what ∧ a.kept[k].sum = b.kept[k].sum
          · have He := Lib.hid he
            have dd : decide (a.kept[k].no = b.kept[k].no ∧ a.kept[k].what = b.kept[k].what ∧ a.kept[k].sum = b.kept[k].sum) = !false := by simpa using he
            have Hd := Lib.hid dd
            clear he dd
            go_wp2
            refine wp_region_quiet_lit (by kernel_rfl) (by kernel_rfl) ?_
            repeat (any_goals (first | ((with_reducible refine qq_load (d := some 31) (hl := (ld_l' hc hlt)) ?_ ?_); rfl) | ((with_reducible refine qq_load (d := some 36) (hl := (ld_l' hc' hlt')) ?_ ?_); rfl) | ((with_reducible refine qq_neqL (d := some 37) (r := false) Hd.out ?_ ?_ ?_); rfl; rfl) | go_big_quiet_step (fail) | quiet_step (fail)))
            refine wpQuiet_nil ?_
            intro _ hw'
            obtain ⟨nq, hw''⟩ := hw'
            subst hw''
            go_wp2
            go_roundw
            case rel => exact ⟨hEr.drewN _, k + 1, by omega, by go_num, fun j hj hj' hjk => by by_cases e : j = k; · subst e; exact He.out
                                                                                               · exact Hfi.out j hj hj' (by omega)⟩
            case measure => simp [intOf]; omega
          · have dd : decide (a.kept[k].no = b.kept[k].no ∧ a.kept[k].what = b.kept[k].what ∧ a.kept[k].sum = b.kept[k].sum) = !true := by simpa using he
            have Hd := Lib.hid dd
            have Hf := Lib.hid (sheetsEq_no hlt hlt' he)
            clear he dd
            go_wp2
            refine wp_region_quiet_lit (by kernel_rfl) (by kernel_rfl) ?_
            repeat (any_goals (first | ((with_reducible refine qq_load (d := some 31) (hl := (ld_l' hc hlt)) ?_ ?_); rfl) | ((with_reducible refine qq_load (d := some 36) (hl := (ld_l' hc' hlt')) ?_ ?_); rfl) | ((with_reducible refine qq_neqL (d := some 37) (r := true) Hd.out ?_ ?_ ?_); rfl; rfl) | go_big_quiet_step (fail) | quiet_step (fail)))
            refine wpQuiet_nil ?_
            intro _ hw'
            obtain ⟨nq, hw''⟩ := hw'
            subst hw''
            go_wp2
            go_ret
            exact ⟨ret_b Hf.out.symm, hE.drewN _⟩
        · obtain rfl : k = a.kept.length := by omega
          have Hf := Lib.hid (sheetsEq_yes Q1.out Q2.out (fun j hj hj' => Hfi.out j hj hj' hj))
          clear h4 h4'
          go_wp2
          go_ret
          exact ⟨ret_b Hf.out.symm, hE⟩
    · have d2 : ((a.kept.length : Int) != (b.kept.length : Int)) = true := by rw [bne_iff_ne]; omega
      have Hf := Lib.hid (sheetsEq_len (.inr q2))
      clear q1 q2
      go_enter Tryz.func27, Tryz.ntmps27
      go_wp2_with (first | ((with_reducible refine q_box (d := some 2) ?_); intro W2 g2 hE2 hB2 hg2; simp [Act.eval, Act.put, Value.cells] at hB2; (try replace hE := hE.trans hE2); (try replace hEr := hEr.trans hE2); (try replace hB2 := hB2.ext hE2); (try replace hB3 := hB3.ext hE2); (try replace hb2_0 := Ext.cell_some hE2 hb2_0); (try replace hb2_1 := Ext.cell_some hE2 hb2_1); (try replace hb3_0 := Ext.cell_some hE2 hb3_0); (try replace hb3_1 := Ext.cell_some hE2 hb3_1); have hb2_0 := hB2.cell 0; have hb2_1 := hB2.cell 1; simp at hb2_0 hb2_1; clear hE2) | ((with_reducible refine q_box (d := some 3) ?_); intro W3 g3 hE3 hB3 hg3; simp [Act.eval, Act.put, Value.cells] at hB3; (try replace hE := hE.trans hE3); (try replace hEr := hEr.trans hE3); (try replace hB2 := hB2.ext hE3); (try replace hB3 := hB3.ext hE3); (try replace hb2_0 := Ext.cell_some hE3 hb2_0); (try replace hb2_1 := Ext.cell_some hE3 hb2_1); (try replace hb3_0 := Ext.cell_some hE3 hb3_0); (try replace hb3_1 := Ext.cell_some hE3 hb3_1); have hb3_0 := hB3.cell 0; have hb3_1 := hB3.cell 1; simp at hb3_0 hb3_1; clear hE3))
      go_ret
      exact ⟨ret_b Hf.out.symm, hE⟩
  · have d1 : (a.lines != b.lines) = true := by rw [bne_iff_ne]; exact q1
    have Hf := Lib.hid (sheetsEq_len (.inl q1))
    clear q1
    go_enter Tryz.func27, Tryz.ntmps27
    go_wp2_with (first | ((with_reducible refine q_box (d := some 2) ?_); intro W2 g2 hE2 hB2 hg2; simp [Act.eval, Act.put, Value.cells] at hB2; (try replace hE := hE.trans hE2); (try replace hEr := hEr.trans hE2); (try replace hB2 := hB2.ext hE2); (try replace hB3 := hB3.ext hE2); (try replace hb2_0 := Ext.cell_some hE2 hb2_0); (try replace hb2_1 := Ext.cell_some hE2 hb2_1); (try replace hb3_0 := Ext.cell_some hE2 hb3_0); (try replace hb3_1 := Ext.cell_some hE2 hb3_1); have hb2_0 := hB2.cell 0; have hb2_1 := hB2.cell 1; simp at hb2_0 hb2_1; clear hE2) | ((with_reducible refine q_box (d := some 3) ?_); intro W3 g3 hE3 hB3 hg3; simp [Act.eval, Act.put, Value.cells] at hB3; (try replace hE := hE.trans hE3); (try replace hEr := hEr.trans hE3); (try replace hB2 := hB2.ext hE3); (try replace hB3 := hB3.ext hE3); (try replace hb2_0 := Ext.cell_some hE3 hb2_0); (try replace hb2_1 := Ext.cell_some hE3 hb2_1); (try replace hb3_0 := Ext.cell_some hE3 hb3_0); (try replace hb3_1 := Ext.cell_some hE3 hb3_1); have hb3_0 := hB3.cell 0; have hb3_1 := hB3.cell 1; simp at hb3_0 hb3_1; clear hE3))
    go_ret
    exact ⟨ret_b Hf.out.symm, hE⟩
end Go.Bp
end
