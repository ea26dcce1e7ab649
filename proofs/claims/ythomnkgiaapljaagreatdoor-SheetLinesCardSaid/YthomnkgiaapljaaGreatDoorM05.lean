/- Texts R19 R20 Base3 R21 Spec14 Base4 of the proof, merged: contracts of functions of chapter 10, of the program and of the reference, and plain laws. -/
import Derived.Test.YthomnkgiaapljaaGreatDoorM01
import Derived.Test.YthomnkgiaapljaaGreatDoorM02
import Derived.Test.YthomnkgiaapljaaGreatDoorM04
section
set_option maxRecDepth 100000
set_option linter.unusedSimpArgs false
set_option linter.unusedVariables false
namespace Go.Bp
open Go.RowKit Go.Proofs
set_option maxHeartbeats 3000000 in
theorem RShow_any (cv sv : Value) (c : Code) (s : Sheet) (b : Bool) (w : World) (h : CodeV w cv c) (hsv : SheetV w sv s) :
    Calls Tryz.prog 33 #[cv, sv, .bool b] w (RetOI w (showAns c s b).1 (showAns c s b).2) := by
  obtain ⟨fv, mv, rfl, hF, hM, hW⟩ := h
  obtain ⟨kv, rfl, hK⟩ := hsv
  have hE := Ext.refl w
  have HW := Lib.hid hW
  clear hW
  by_cases ha : fittingErr c s = 0
  · obtain ⟨ho, hs, hne⟩ := fittingErr_zero ha
    have Ho := Lib.hid ho; have Hs := Lib.hid hs
    have q1 : (fittingErr c s != 0) = false := by simp [ha]
    have Ha := Lib.hid ha
    clear ha ho hs hne
    go_enter Tryz.func33, Tryz.ntmps33
    go_wp2_with (first | (go_at_call 78; ((with_reducible refine (Rfitting_any _ _ c s _ (by exact CodeV.of hF hM HW.out) (by exact SheetV.of hK)).mono ?_); rintro e Wc1 ⟨rfl, hEc1⟩; (try replace hEc1 := Ext.undrew hEc1); (try replace hE := hE.trans hEc1); (try replace hF := hF.ext hEc1); (try replace hM := hM.ext hEc1); (try replace hK := hK.ext hEc1); (try replace hB3 := hB3.ext hEc1); (try replace hB4 := hB4.ext hEc1); (try replace hb3_0 := Ext.cell_some hEc1 hb3_0); (try replace hb3_1 := Ext.cell_some hEc1 hb3_1); (try replace hb3_2 := Ext.cell_some hEc1 hb3_2); (try replace hb4_0 := Ext.cell_some hEc1 hb4_0); (try replace hb4_1 := Ext.cell_some hEc1 hb4_1))) | (go_at_call 75; ((with_reducible refine (Rtests_any _ _ c s _ (by exact CodeV.of hF hM HW.out) (by exact SheetV.of hK) Ho.out Hs.out).mono ?_); rintro e Wc2 ⟨v75, rfl, hO75, hEc2⟩; (try replace hEc2 := Ext.undrew hEc2); (try replace hE := hE.trans hEc2); (try replace hF := hF.ext hEc2); (try replace hM := hM.ext hEc2); (try replace hK := hK.ext hEc2); (try replace hB3 := hB3.ext hEc2); (try replace hB4 := hB4.ext hEc2); (try replace hb3_0 := Ext.cell_some hEc2 hb3_0); (try replace hb3_1 := Ext.cell_some hEc2 hb3_1); (try replace hb3_2 := Ext.cell_some hEc2 hb3_2); (try replace hb4_0 := Ext.cell_some hEc2 hb4_0); (try replace hb4_1 := Ext.cell_some hEc2 hb4_1); obtain ⟨A75, c75, rfl, qa, qb⟩ := hO75.ss.len)) | ((with_reducible refine q_box (d := some 3) ?_); intro W3 g3 hE3 hB3 hg3; simp [Act.eval, Act.put, Value.cells] at hB3; (try replace hE := hE.trans hE3); (try replace hF := hF.ext hE3); (try replace hM := hM.ext hE3); (try replace hK := hK.ext hE3); (try replace hB3 := hB3.ext hE3); (try replace hB4 := hB4.ext hE3); (try replace hb3_0 := Ext.cell_some hE3 hb3_0); (try replace hb3_1 := Ext.cell_some hE3 hb3_1); (try replace hb3_2 := Ext.cell_some hE3 hb3_2); (try replace hb4_0 := Ext.cell_some hE3 hb4_0); (try replace hb4_1 := Ext.cell_some hE3 hb4_1); have hb3_0 := hB3.cell 0; have hb3_1 := hB3.cell 1; have hb3_2 := hB3.cell 2; simp at hb3_0 hb3_1 hb3_2; clear hE3) | ((with_reducible refine q_box (d := some 4) ?_); intro W4 g4 hE4 hB4 hg4; simp [Act.eval, Act.put, Value.cells] at hB4; (try replace hE := hE.trans hE4); (try replace hF := hF.ext hE4); (try replace hM := hM.ext hE4); (try replace hK := hK.ext hE4); (try replace hB3 := hB3.ext hE4); (try replace hB4 := hB4.ext hE4); (try replace hb3_0 := Ext.cell_some hE4 hb3_0); (try replace hb3_1 := Ext.cell_some hE4 hb3_1); (try replace hb3_2 := Ext.cell_some hE4 hb3_2); (try replace hb4_0 := Ext.cell_some hE4 hb4_0); (try replace hb4_1 := Ext.cell_some hE4 hb4_1); have hb4_0 := hB4.cell 0; have hb4_1 := hB4.cell 1; simp at hb4_0 hb4_1; clear hE4))
    obtain ⟨ts, hts⟩ : ∃ ts, tests c s = ts := ⟨_, rfl⟩
    have Hts := Lib.hid hts
    rw [hts] at hO75 qa ⊢
    unfold maxLen at qb
    clear hts
    obtain ⟨Wl, hWl⟩ : ∃ W, W = Wc2 := ⟨_, rfl⟩
    subst hWl
    go_loopw [10] (fun i wr => Ext Wl wr ∧ ∃ k : Nat, k ≤ ts.length ∧ i = .int .i64 k ∧ ∀ t ∈ ts.take k, c.passed t ≠ b) (fun i _ => ts.length - (intOf i).toNat)
    case atStart => exact ⟨Ext.refl _, 0, by omega, rfl, by simp⟩
    case round =>
      obtain ⟨hEr, k, hk, rfl, hfi⟩ := hrel
      (try replace hE := hE.trans hEr); (try replace hF := hF.ext hEr); (try replace hM := hM.ext hEr); (try replace hK := hK.ext hEr); (try replace hB3 := hB3.ext hEr); (try replace hB4 := hB4.ext hEr); (try replace hb3_0 := Ext.cell_some hEr hb3_0); (try replace hb3_1 := Ext.cell_some hEr hb3_1); (try replace hb3_2 := Ext.cell_some hEr hb3_2); (try replace hb4_0 := Ext.cell_some hEr hb4_0); (try replace hb4_1 := Ext.cell_some hEr hb4_1)
      have Hfi := Lib.hid hfi
      clear hfi
      by_cases hlt : k < ts.length
      · obtain ⟨ad, u, rfl, e10, hu0⟩ := hO75.ss.at_ hlt
        have e1 := Ext.cell_some hEr e10
        have hu := hu0.ext hEr
        obtain ⟨Au, cu, rfl, hu1, hu2, _⟩ := hu.ints
        have Htk := Lib.hid (tests_mem Hs.out (by rw [Hts.out]; exact List.getElem_mem hlt)).1
        clear hO75 e10 hu0
        by_cases hp : c.passed ts[k] = b
        · have Hr := Lib.hid (show showAns c s b = (ts[k], 0) by have := Hts.out; subst this; exact show_some Ha.out hlt hp Hfi.out)
          subst hp
          cases hp2 : c.passed ts[k]
          all_goals
            have Hp2 := Lib.hid hp2
            rw [hp2] at Hr
            go_wp2_with fail
            go_region_held3 (fun w' => w'.cell? ⟨g3, 0, none⟩ = some (fv) ∧ w'.cell? ⟨g3, 1, none⟩ = some (mv) ∧ w'.cell? ⟨g3, 2, none⟩ = some (.int .i64 c.all) ∧ w'.cell? (ad.add k) = some (.slice Au ts[k].length cu)) (simp [*]) ((first | (go_at_call 51; ((with_reducible refine (RPassed_any _ _ c ts[k] _ (by first | exact CodeV.of hF hM HW.out | exact (CodeV.of hF hM HW.out).d) (by first | exact hu.ints | exact (hu.ints).d) Ho.out Htk.out).mono ?_); rintro e Wc3 ⟨rfl, hEc3⟩; (try replace hEc3 := Ext.undrew hEc3); (try replace hE := hE.trans hEc3); (try replace hEr := hEr.trans hEc3); (try replace hEr := hEr.trans hEc3); (try replace hF := hF.ext hEc3); (try replace hM := hM.ext hEc3); (try replace hK := hK.ext hEc3); (try replace hB3 := hB3.ext hEc3); (try replace hB4 := hB4.ext hEc3); (try replace hu := hu.ext hEc3); (try replace hb3_0 := Ext.cell_some hEc3 hb3_0); (try replace hb3_1 := Ext.cell_some hEc3 hb3_1); (try replace hb3_2 := Ext.cell_some hEc3 hb3_2); (try replace hb4_0 := Ext.cell_some hEc3 hb4_0); (try replace hb4_1 := Ext.cell_some hEc3 hb4_1); (try replace e1 := Ext.cell_some hEc3 e1)))))
            go_wp2
            go_ret2
            exact ⟨_, by rw [Hr.out]; rfl, by rw [Hr.out]; exact hu, hE⟩
        · have hp3 : c.passed ts[k] = !b := by cases hq : c.passed ts[k] <;> cases b <;> simp_all
          have Hp := Lib.hid hp
          clear hp
          cases b
          all_goals
            simp only [Bool.not_false, Bool.not_true] at hp3
            have Hp3 := Lib.hid hp3
            go_wp2_with fail
            go_region_held3 (fun w' => w'.cell? ⟨g3, 0, none⟩ = some (fv) ∧ w'.cell? ⟨g3, 1, none⟩ = some (mv) ∧ w'.cell? ⟨g3, 2, none⟩ = some (.int .i64 c.all) ∧ w'.cell? (ad.add k) = some (.slice Au ts[k].length cu)) (simp [*]) ((first | (go_at_call 51; ((with_reducible refine (RPassed_any _ _ c ts[k] _ (by first | exact CodeV.of hF hM HW.out | exact (CodeV.of hF hM HW.out).d) (by first | exact hu.ints | exact (hu.ints).d) Ho.out Htk.out).mono ?_); rintro e Wc4 ⟨rfl, hEc4⟩; (try replace hEc4 := Ext.undrew hEc4); (try replace hE := hE.trans hEc4); (try replace hEr := hEr.trans hEc4); (try replace hEr := hEr.trans hEc4); (try replace hF := hF.ext hEc4); (try replace hM := hM.ext hEc4); (try replace hK := hK.ext hEc4); (try replace hB3 := hB3.ext hEc4); (try replace hB4 := hB4.ext hEc4); (try replace hu := hu.ext hEc4); (try replace hb3_0 := Ext.cell_some hEc4 hb3_0); (try replace hb3_1 := Ext.cell_some hEc4 hb3_1); (try replace hb3_2 := Ext.cell_some hEc4 hb3_2); (try replace hb4_0 := Ext.cell_some hEc4 hb4_0); (try replace hb4_1 := Ext.cell_some hEc4 hb4_1); (try replace e1 := Ext.cell_some hEc4 e1)))))
            go_wp2
            go_roundw
            case rel => exact ⟨hEr, k + 1, by omega, by go_num, all_take_snoc (p := fun t => c.passed t ≠ _) hlt Hfi.out Hp.out⟩
            case measure => simp [intOf]; omega
      · obtain rfl : k = ts.length := by omega
        have Hr := Lib.hid (show showAns c s b = ([], 4) by have := Hts.out; subst this; exact show_none Ha.out (fun t ht => Hfi.out t (by rw [List.take_length]; exact ht)))
        go_wp2
        go_ret2
        exact ⟨_, by rw [Hr.out]; rfl, by rw [Hr.out]; exact IntB.nil _, hE⟩
  · have q1 : (fittingErr c s != 0) = true := by simp [ha]
    have Hr := Lib.hid (show_e (b := b) ha)
    clear ha
    rw [Hr.out]
    go_enter Tryz.func33, Tryz.ntmps33
    go_wp2_with (first | (go_at_call 78; ((with_reducible refine (Rfitting_any _ _ c s _ (by exact CodeV.of hF hM HW.out) (by exact SheetV.of hK)).mono ?_); rintro e Wc5 ⟨rfl, hEc5⟩; (try replace hEc5 := Ext.undrew hEc5); (try replace hE := hE.trans hEc5); (try replace hEr := hEr.trans hEc5); (try replace hEr := hEr.trans hEc5); (try replace hF := hF.ext hEc5); (try replace hM := hM.ext hEc5); (try replace hK := hK.ext hEc5); (try replace hB3 := hB3.ext hEc5); (try replace hB4 := hB4.ext hEc5); (try replace hu := hu.ext hEc5); (try replace hb3_0 := Ext.cell_some hEc5 hb3_0); (try replace hb3_1 := Ext.cell_some hEc5 hb3_1); (try replace hb3_2 := Ext.cell_some hEc5 hb3_2); (try replace hb4_0 := Ext.cell_some hEc5 hb4_0); (try replace hb4_1 := Ext.cell_some hEc5 hb4_1); (try replace e1 := Ext.cell_some hEc5 e1))) | ((with_reducible refine q_box (d := some 3) ?_); intro W3 g3 hE3 hB3 hg3; simp [Act.eval, Act.put, Value.cells] at hB3; (try replace hE := hE.trans hE3); (try replace hEr := hEr.trans hE3); (try replace hEr := hEr.trans hE3); (try replace hF := hF.ext hE3); (try replace hM := hM.ext hE3); (try replace hK := hK.ext hE3); (try replace hB3 := hB3.ext hE3); (try replace hB4 := hB4.ext hE3); (try replace hu := hu.ext hE3); (try replace hb3_0 := Ext.cell_some hE3 hb3_0); (try replace hb3_1 := Ext.cell_some hE3 hb3_1); (try replace hb3_2 := Ext.cell_some hE3 hb3_2); (try replace hb4_0 := Ext.cell_some hE3 hb4_0); (try replace hb4_1 := Ext.cell_some hE3 hb4_1); (try replace e1 := Ext.cell_some hE3 e1); have hb3_0 := hB3.cell 0; have hb3_1 := hB3.cell 1; have hb3_2 := hB3.cell 2; simp at hb3_0 hb3_1 hb3_2; clear hE3) | ((with_reducible refine q_box (d := some 4) ?_); intro W4 g4 hE4 hB4 hg4; simp [Act.eval, Act.put, Value.cells] at hB4; (try replace hE := hE.trans hE4); (try replace hEr := hEr.trans hE4); (try replace hEr := hEr.trans hE4); (try replace hF := hF.ext hE4); (try replace hM := hM.ext hE4); (try replace hK := hK.ext hE4); (try replace hB3 := hB3.ext hE4); (try replace hB4 := hB4.ext hE4); (try replace hu := hu.ext hE4); (try replace hb3_0 := Ext.cell_some hE4 hb3_0); (try replace hb3_1 := Ext.cell_some hE4 hb3_1); (try replace hb3_2 := Ext.cell_some hE4 hb3_2); (try replace hb4_0 := Ext.cell_some hE4 hb4_0); (try replace hb4_1 := Ext.cell_some hE4 hb4_1); (try replace e1 := Ext.cell_some hE4 e1); have hb4_0 := hB4.cell 0; have hb4_1 := hB4.cell 1; simp at hb4_0 hb4_1; clear hE4))
    go_ret2
    exact ⟨_, rfl, IntB.nil _, hE⟩
/-- A bool and a number. -/
def RetBI (w : World) (a : Bool) (b : Int) (e : Ending) (w' : World) : Prop := e = .returned (.tuple #[.bool a, .int .i64 b]) ∧ Ext w w'
set_option maxHeartbeats 3000000 in
theorem REnough_any (cv sv lv : Value) (c : Code) (s : Sheet) (ls : List Int) (w : World) (h : CodeV w cv c) (hsv : SheetV w sv s) (hl : Ints w lv ls) :
    Calls Tryz.prog 35 #[cv, sv, lv] w (RetBI w (enoughAns c s ls).1 (enoughAns c s ls).2) := by
  obtain ⟨fv, mv, rfl, hF, hM, hW⟩ := h
  obtain ⟨kv, rfl, hK⟩ := hsv
  have hE := Ext.refl w
  have HW := Lib.hid hW
  clear hW
  by_cases ha : fittingErr c s = 0
  · obtain ⟨ho, hs, hne⟩ := fittingErr_zero ha
    have Ho := Lib.hid ho; have Hs := Lib.hid hs
    have hs1 := hs.l1
    have hs2 := hs.l2
    have q1 : (fittingErr c s == 0) = true := by simp [ha]
    have he : enoughErr c s ls = rising (hasB s.lost) ls := by unfold enoughErr; rw [if_neg (by simp [ha])]
    by_cases hr : rising (hasB s.lost) ls = 0
    · have q2 : (rising (hasB s.lost) ls != 0) = false := by simp [hr]
      have Hr := Lib.hid (show enoughAns c s ls = (enough c (tests c s) ls, 0) by unfold enoughAns; rw [if_neg (by rw [he]; simp [hr])])
      have hlo := rising_lost hr
      have Hok := Lib.hid (show ∀ t ∈ tests c s, c.TestOk t from fun t ht => (tests_mem hs ht).1)
      have Hlen := Lib.hid (tests_len ho hs)
      have Hn := Lib.hid (show ∀ n ∈ ls, 1 ≤ n ∧ ∀ t ∈ tests c s, n ≤ t.length from fun n hn => ⟨(hlo n hn).1, fun t ht => by have := (tests_mem hs ht).2.1; have := (hlo n hn).2; omega⟩)
      clear hlo
      clear ha ho hs hne he hr
      rw [Hr.out]
      go_enter Tryz.func35, Tryz.ntmps35
      go_wp2_with (first | (go_at_call 78; ((with_reducible refine (Rfitting_any _ _ c s _ (by exact CodeV.of hF hM HW.out) (by exact SheetV.of hK)).mono ?_); rintro e Wc1 ⟨rfl, hEc1⟩; (try replace hEc1 := Ext.undrew hEc1); (try replace hE := hE.trans hEc1); (try replace hF := hF.ext hEc1); (try replace hM := hM.ext hEc1); (try replace hK := hK.ext hEc1); (try replace hl := hl.ext hEc1); (try replace hB3 := hB3.ext hEc1); (try replace hB4 := hB4.ext hEc1); (try replace hb3_0 := Ext.cell_some hEc1 hb3_0); (try replace hb3_1 := Ext.cell_some hEc1 hb3_1); (try replace hb3_2 := Ext.cell_some hEc1 hb3_2); (try replace hb4_0 := Ext.cell_some hEc1 hb4_0); (try replace hb4_1 := Ext.cell_some hEc1 hb4_1))) | (go_at_call 47; ((with_reducible refine (Lost_any _ s s.lines.toNat _ (by exact SheetV.of hK) (by omega) (by omega)).mono ?_); rintro e Wc2 ⟨v47, rfl, hO47, hEc2⟩; (try replace hEc2 := Ext.undrew hEc2); (try replace hE := hE.trans hEc2); (try replace hF := hF.ext hEc2); (try replace hM := hM.ext hEc2); (try replace hK := hK.ext hEc2); (try replace hl := hl.ext hEc2); (try replace hB3 := hB3.ext hEc2); (try replace hB4 := hB4.ext hEc2); (try replace hb3_0 := Ext.cell_some hEc2 hb3_0); (try replace hb3_1 := Ext.cell_some hEc2 hb3_1); (try replace hb3_2 := Ext.cell_some hEc2 hb3_2); (try replace hb4_0 := Ext.cell_some hEc2 hb4_0); (try replace hb4_1 := Ext.cell_some hEc2 hb4_1))) | (go_at_call 71; ((with_reducible refine (Rrising_any _ _ ls s.lost _ (by exact hl) (by exact hO47.ints)).mono ?_); rintro e Wc3 ⟨rfl, hEc3⟩; (try replace hEc3 := Ext.undrew hEc3); (try replace hE := hE.trans hEc3); (try replace hF := hF.ext hEc3); (try replace hM := hM.ext hEc3); (try replace hK := hK.ext hEc3); (try replace hl := hl.ext hEc3); (try replace hB3 := hB3.ext hEc3); (try replace hB4 := hB4.ext hEc3); (try replace hb3_0 := Ext.cell_some hEc3 hb3_0); (try replace hb3_1 := Ext.cell_some hEc3 hb3_1); (try replace hb3_2 := Ext.cell_some hEc3 hb3_2); (try replace hb4_0 := Ext.cell_some hEc3 hb4_0); (try replace hb4_1 := Ext.cell_some hEc3 hb4_1))) | ((with_reducible refine q_box (d := some 3) ?_); intro W3 g3 hE3 hB3 hg3; simp [Act.eval, Act.put, Value.cells] at hB3; (try replace hE := hE.trans hE3); (try replace hF := hF.ext hE3); (try replace hM := hM.ext hE3); (try replace hK := hK.ext hE3); (try replace hl := hl.ext hE3); (try replace hB3 := hB3.ext hE3); (try replace hB4 := hB4.ext hE3); (try replace hb3_0 := Ext.cell_some hE3 hb3_0); (try replace hb3_1 := Ext.cell_some hE3 hb3_1); (try replace hb3_2 := Ext.cell_some hE3 hb3_2); (try replace hb4_0 := Ext.cell_some hE3 hb4_0); (try replace hb4_1 := Ext.cell_some hE3 hb4_1); have hb3_0 := hB3.cell 0; have hb3_1 := hB3.cell 1; have hb3_2 := hB3.cell 2; simp at hb3_0 hb3_1 hb3_2; clear hE3) | ((with_reducible refine q_box (d := some 4) ?_); intro W4 g4 hE4 hB4 hg4; simp [Act.eval, Act.put, Value.cells] at hB4; (try replace hE := hE.trans hE4); (try replace hF := hF.ext hE4); (try replace hM := hM.ext hE4); (try replace hK := hK.ext hE4); (try replace hl := hl.ext hE4); (try replace hB3 := hB3.ext hE4); (try replace hB4 := hB4.ext hE4); (try replace hb3_0 := Ext.cell_some hE4 hb3_0); (try replace hb3_1 := Ext.cell_some hE4 hb3_1); (try replace hb3_2 := Ext.cell_some hE4 hb3_2); (try replace hb4_0 := Ext.cell_some hE4 hb4_0); (try replace hb4_1 := Ext.cell_some hE4 hb4_1); have hb4_0 := hB4.cell 0; have hb4_1 := hB4.cell 1; simp at hb4_0 hb4_1; clear hE4))
      go_region_held3 (fun w' => w'.cell? ⟨g3, 0, none⟩ = some (fv) ∧ w'.cell? ⟨g3, 1, none⟩ = some (mv) ∧ w'.cell? ⟨g3, 2, none⟩ = some (.int .i64 c.all) ∧ w'.cell? ⟨g4, 0, none⟩ = some (.int .i64 s.lines) ∧ w'.cell? ⟨g4, 1, none⟩ = some (kv)) (simp [*]) ((first | (go_at_call 75; ((with_reducible refine (Rtests_any _ _ c s _ (by first | exact CodeV.of hF hM HW.out | exact (CodeV.of hF hM HW.out).d) (by first | exact SheetV.of hK | exact (SheetV.of hK).d) Ho.out Hs.out).mono ?_); rintro e Wc4 ⟨v75, rfl, hO75, hEc4⟩; (try replace hEc4 := Ext.undrew hEc4); (try replace hE := hE.trans hEc4); (try replace hF := hF.ext hEc4); (try replace hM := hM.ext hEc4); (try replace hK := hK.ext hEc4); (try replace hl := hl.ext hEc4); (try replace hB3 := hB3.ext hEc4); (try replace hB4 := hB4.ext hEc4); (try replace hb3_0 := Ext.cell_some hEc4 hb3_0); (try replace hb3_1 := Ext.cell_some hEc4 hb3_1); (try replace hb3_2 := Ext.cell_some hEc4 hb3_2); (try replace hb4_0 := Ext.cell_some hEc4 hb4_0); (try replace hb4_1 := Ext.cell_some hEc4 hb4_1))) | (go_at_call 81; ((with_reducible refine (Renough_any _ _ _ c (tests c s) ls _ (by first | exact CodeV.of hF hM HW.out | exact (CodeV.of hF hM HW.out).d) (by first | exact hO75.ss | exact (hO75.ss).d) (by first | exact hl | exact (hl).d) Ho.out Hok.out (by have := Hlen.out; omega) Hn.out).mono ?_); rintro e Wc5 ⟨rfl, hEc5⟩; (try replace hEc5 := Ext.undrew hEc5); (try replace hE := hE.trans hEc5); (try replace hF := hF.ext hEc5); (try replace hM := hM.ext hEc5); (try replace hK := hK.ext hEc5); (try replace hl := hl.ext hEc5); (try replace hB3 := hB3.ext hEc5); (try replace hB4 := hB4.ext hEc5); (try replace hb3_0 := Ext.cell_some hEc5 hb3_0); (try replace hb3_1 := Ext.cell_some hEc5 hb3_1); (try replace hb3_2 := Ext.cell_some hEc5 hb3_2); (try replace hb4_0 := Ext.cell_some hEc5 hb4_0); (try replace hb4_1 := Ext.cell_some hEc5 hb4_1)))))
      go_wp2
      go_ret2
      exact ⟨rfl, hE⟩
    · have q2 : (rising (hasB s.lost) ls != 0) = true := by simp [hr]
      have Hr := Lib.hid (show enoughAns c s ls = (false, rising (hasB s.lost) ls) by unfold enoughAns; rw [if_pos (by rw [he]; exact hr), he])
      clear ha ho hs hne he hr
      rw [Hr.out]
      go_enter Tryz.func35, Tryz.ntmps35
      go_wp2_with (first | (go_at_call 78; ((with_reducible refine (Rfitting_any _ _ c s _ (by exact CodeV.of hF hM HW.out) (by exact SheetV.of hK)).mono ?_); rintro e Wc6 ⟨rfl, hEc6⟩; (try replace hEc6 := Ext.undrew hEc6); (try replace hE := hE.trans hEc6); (try replace hF := hF.ext hEc6); (try replace hM := hM.ext hEc6); (try replace hK := hK.ext hEc6); (try replace hl := hl.ext hEc6); (try replace hB3 := hB3.ext hEc6); (try replace hB4 := hB4.ext hEc6); (try replace hb3_0 := Ext.cell_some hEc6 hb3_0); (try replace hb3_1 := Ext.cell_some hEc6 hb3_1); (try replace hb3_2 := Ext.cell_some hEc6 hb3_2); (try replace hb4_0 := Ext.cell_some hEc6 hb4_0); (try replace hb4_1 := Ext.cell_some hEc6 hb4_1))) | (go_at_call 47; ((with_reducible refine (Lost_any _ s s.lines.toNat _ (by exact SheetV.of hK) (by omega) (by omega)).mono ?_); rintro e Wc7 ⟨v47, rfl, hO47, hEc7⟩; (try replace hEc7 := Ext.undrew hEc7); (try replace hE := hE.trans hEc7); (try replace hF := hF.ext hEc7); (try replace hM := hM.ext hEc7); (try replace hK := hK.ext hEc7); (try replace hl := hl.ext hEc7); (try replace hB3 := hB3.ext hEc7); (try replace hB4 := hB4.ext hEc7); (try replace hb3_0 := Ext.cell_some hEc7 hb3_0); (try replace hb3_1 := Ext.cell_some hEc7 hb3_1); (try replace hb3_2 := Ext.cell_some hEc7 hb3_2); (try replace hb4_0 := Ext.cell_some hEc7 hb4_0); (try replace hb4_1 := Ext.cell_some hEc7 hb4_1))) | (go_at_call 71; ((with_reducible refine (Rrising_any _ _ ls s.lost _ (by exact hl) (by exact hO47.ints)).mono ?_); rintro e Wc8 ⟨rfl, hEc8⟩; (try replace hEc8 := Ext.undrew hEc8); (try replace hE := hE.trans hEc8); (try replace hF := hF.ext hEc8); (try replace hM := hM.ext hEc8); (try replace hK := hK.ext hEc8); (try replace hl := hl.ext hEc8); (try replace hB3 := hB3.ext hEc8); (try replace hB4 := hB4.ext hEc8); (try replace hb3_0 := Ext.cell_some hEc8 hb3_0); (try replace hb3_1 := Ext.cell_some hEc8 hb3_1); (try replace hb3_2 := Ext.cell_some hEc8 hb3_2); (try replace hb4_0 := Ext.cell_some hEc8 hb4_0); (try replace hb4_1 := Ext.cell_some hEc8 hb4_1))) | ((with_reducible refine q_box (d := some 3) ?_); intro W3 g3 hE3 hB3 hg3; simp [Act.eval, Act.put, Value.cells] at hB3; (try replace hE := hE.trans hE3); (try replace hF := hF.ext hE3); (try replace hM := hM.ext hE3); (try replace hK := hK.ext hE3); (try replace hl := hl.ext hE3); (try replace hB3 := hB3.ext hE3); (try replace hB4 := hB4.ext hE3); (try replace hb3_0 := Ext.cell_some hE3 hb3_0); (try replace hb3_1 := Ext.cell_some hE3 hb3_1); (try replace hb3_2 := Ext.cell_some hE3 hb3_2); (try replace hb4_0 := Ext.cell_some hE3 hb4_0); (try replace hb4_1 := Ext.cell_some hE3 hb4_1); have hb3_0 := hB3.cell 0; have hb3_1 := hB3.cell 1; have hb3_2 := hB3.cell 2; simp at hb3_0 hb3_1 hb3_2; clear hE3) | ((with_reducible refine q_box (d := some 4) ?_); intro W4 g4 hE4 hB4 hg4; simp [Act.eval, Act.put, Value.cells] at hB4; (try replace hE := hE.trans hE4); (try replace hF := hF.ext hE4); (try replace hM := hM.ext hE4); (try replace hK := hK.ext hE4); (try replace hl := hl.ext hE4); (try replace hB3 := hB3.ext hE4); (try replace hB4 := hB4.ext hE4); (try replace hb3_0 := Ext.cell_some hE4 hb3_0); (try replace hb3_1 := Ext.cell_some hE4 hb3_1); (try replace hb3_2 := Ext.cell_some hE4 hb3_2); (try replace hb4_0 := Ext.cell_some hE4 hb4_0); (try replace hb4_1 := Ext.cell_some hE4 hb4_1); have hb4_0 := hB4.cell 0; have hb4_1 := hB4.cell 1; simp at hb4_0 hb4_1; clear hE4))
      go_ret2
      exact ⟨rfl, hE⟩
  · have q1 : (fittingErr c s == 0) = false := by simp [ha]
    have q2 : (fittingErr c s != 0) = true := by simp [ha]
    have he : enoughErr c s ls = fittingErr c s := by unfold enoughErr; rw [if_pos ha]
    have Hr := Lib.hid (show enoughAns c s ls = (false, fittingErr c s) by unfold enoughAns; rw [if_pos (by rw [he]; exact ha), he])
    clear ha he
    rw [Hr.out]
    go_enter Tryz.func35, Tryz.ntmps35
    go_wp2_with (first | (go_at_call 78; ((with_reducible refine (Rfitting_any _ _ c s _ (by exact CodeV.of hF hM HW.out) (by exact SheetV.of hK)).mono ?_); rintro e Wc9 ⟨rfl, hEc9⟩; (try replace hEc9 := Ext.undrew hEc9); (try replace hE := hE.trans hEc9); (try replace hF := hF.ext hEc9); (try replace hM := hM.ext hEc9); (try replace hK := hK.ext hEc9); (try replace hl := hl.ext hEc9); (try replace hB3 := hB3.ext hEc9); (try replace hB4 := hB4.ext hEc9); (try replace hb3_0 := Ext.cell_some hEc9 hb3_0); (try replace hb3_1 := Ext.cell_some hEc9 hb3_1); (try replace hb3_2 := Ext.cell_some hEc9 hb3_2); (try replace hb4_0 := Ext.cell_some hEc9 hb4_0); (try replace hb4_1 := Ext.cell_some hEc9 hb4_1))) | ((with_reducible refine q_box (d := some 3) ?_); intro W3 g3 hE3 hB3 hg3; simp [Act.eval, Act.put, Value.cells] at hB3; (try replace hE := hE.trans hE3); (try replace hF := hF.ext hE3); (try replace hM := hM.ext hE3); (try replace hK := hK.ext hE3); (try replace hl := hl.ext hE3); (try replace hB3 := hB3.ext hE3); (try replace hB4 := hB4.ext hE3); (try replace hb3_0 := Ext.cell_some hE3 hb3_0); (try replace hb3_1 := Ext.cell_some hE3 hb3_1); (try replace hb3_2 := Ext.cell_some hE3 hb3_2); (try replace hb4_0 := Ext.cell_some hE3 hb4_0); (try replace hb4_1 := Ext.cell_some hE3 hb4_1); have hb3_0 := hB3.cell 0; have hb3_1 := hB3.cell 1; have hb3_2 := hB3.cell 2; simp at hb3_0 hb3_1 hb3_2; clear hE3) | ((with_reducible refine q_box (d := some 4) ?_); intro W4 g4 hE4 hB4 hg4; simp [Act.eval, Act.put, Value.cells] at hB4; (try replace hE := hE.trans hE4); (try replace hF := hF.ext hE4); (try replace hM := hM.ext hE4); (try replace hK := hK.ext hE4); (try replace hl := hl.ext hE4); (try replace hB3 := hB3.ext hE4); (try replace hB4 := hB4.ext hE4); (try replace hb3_0 := Ext.cell_some hE4 hb3_0); (try replace hb3_1 := Ext.cell_some hE4 hb3_1); (try replace hb3_2 := Ext.cell_some hE4 hb3_2); (try replace hb4_0 := Ext.cell_some hE4 hb4_0); (try replace hb4_1 := Ext.cell_some hE4 hb4_1); have hb4_0 := hB4.cell 0; have hb4_1 := hB4.cell 1; simp at hb4_0 hb4_1; clear hE4))
    go_ret2
    exact ⟨rfl, hE⟩
end Go.Bp
end
section
set_option maxRecDepth 100000
set_option linter.unusedSimpArgs false
set_option linter.unusedVariables false
namespace Go.Bp
open Go.RowKit Go.Proofs
theorem le_succ_find {p : List Int → Bool} {ls : List Int} {m : Nat} (h : ∀ j, j < m → ∀ x ∈ combos j ls, p x = false) (h2 : ∀ x ∈ combos m ls, p x = false) : ∀ j, j < m + 1 → ∀ x ∈ combos j ls, p x = false := by
  intro j hj x hx
  by_cases e : j = m
  · subst e; exact h2 x hx
  · exact h j (by omega) x hx
set_option maxHeartbeats 3000000 in
theorem RFewest_any (cv sv : Value) (c : Code) (s : Sheet) (w : World) (h : CodeV w cv c) (hsv : SheetV w sv s) :
    Calls Tryz.prog 37 #[cv, sv] w (RetOI w (fewestAns c s).1 (fewestAns c s).2) := by
  obtain ⟨fv, mv, rfl, hF, hM, hW⟩ := h
  obtain ⟨kv, rfl, hK⟩ := hsv
  have hE := Ext.refl w
  have HW := Lib.hid hW
  clear hW
  by_cases ha : fittingErr c s = 0
  · obtain ⟨ho, hs, hne⟩ := fittingErr_zero ha
    have Ho := Lib.hid ho; have Hs := Lib.hid hs
    have hs1 := hs.l1
    have hs2 := hs.l2
    have hl3 := hs.lost3
    have q1 : (fittingErr c s != 0) = false := by simp [ha]
    have Hok := Lib.hid (show ∀ t ∈ tests c s, c.TestOk t from fun t ht => (tests_mem hs ht).1)
    have Hlen := Lib.hid (tests_len ho hs)
    have Hn := Lib.hid (show ∀ j, ∀ ls ∈ combos j s.lost, ∀ n ∈ ls, 1 ≤ n ∧ ∀ t ∈ tests c s, n ≤ t.length from fun j ls hls n hn => ⟨(mem_lost (combos_sub _ _ _ hls _ hn)).1, fun t ht => by have := (tests_mem hs ht).2.1; have := (mem_lost (combos_sub _ _ _ hls _ hn)).2; omega⟩)
    have Ha := Lib.hid ha
    clear ha ho hs hne
    go_enter Tryz.func37, Tryz.ntmps37
    go_wp2_with (first | (go_at_call 78; ((with_reducible refine (Rfitting_any _ _ c s _ (by exact CodeV.of hF hM HW.out) (by exact SheetV.of hK)).mono ?_); rintro e Wc1 ⟨rfl, hEc1⟩; (try replace hEc1 := Ext.undrew hEc1); (try replace hE := hE.trans hEc1); (try replace hF := hF.ext hEc1); (try replace hM := hM.ext hEc1); (try replace hK := hK.ext hEc1); (try replace hB2 := hB2.ext hEc1); (try replace hB3 := hB3.ext hEc1); (try replace hb2_0 := Ext.cell_some hEc1 hb2_0); (try replace hb2_1 := Ext.cell_some hEc1 hb2_1); (try replace hb2_2 := Ext.cell_some hEc1 hb2_2); (try replace hb3_0 := Ext.cell_some hEc1 hb3_0); (try replace hb3_1 := Ext.cell_some hEc1 hb3_1))) | ((with_reducible refine q_box (d := some 2) ?_); intro W2 g2 hE2 hB2 hg2; simp [Act.eval, Act.put, Value.cells] at hB2; (try replace hE := hE.trans hE2); (try replace hF := hF.ext hE2); (try replace hM := hM.ext hE2); (try replace hK := hK.ext hE2); (try replace hB2 := hB2.ext hE2); (try replace hB3 := hB3.ext hE2); (try replace hb2_0 := Ext.cell_some hE2 hb2_0); (try replace hb2_1 := Ext.cell_some hE2 hb2_1); (try replace hb2_2 := Ext.cell_some hE2 hb2_2); (try replace hb3_0 := Ext.cell_some hE2 hb3_0); (try replace hb3_1 := Ext.cell_some hE2 hb3_1); have hb2_0 := hB2.cell 0; have hb2_1 := hB2.cell 1; have hb2_2 := hB2.cell 2; simp at hb2_0 hb2_1 hb2_2; clear hE2) | ((with_reducible refine q_box (d := some 3) ?_); intro W3 g3 hE3 hB3 hg3; simp [Act.eval, Act.put, Value.cells] at hB3; (try replace hE := hE.trans hE3); (try replace hF := hF.ext hE3); (try replace hM := hM.ext hE3); (try replace hK := hK.ext hE3); (try replace hB2 := hB2.ext hE3); (try replace hB3 := hB3.ext hE3); (try replace hb2_0 := Ext.cell_some hE3 hb2_0); (try replace hb2_1 := Ext.cell_some hE3 hb2_1); (try replace hb2_2 := Ext.cell_some hE3 hb2_2); (try replace hb3_0 := Ext.cell_some hE3 hb3_0); (try replace hb3_1 := Ext.cell_some hE3 hb3_1); have hb3_0 := hB3.cell 0; have hb3_1 := hB3.cell 1; simp at hb3_0 hb3_1; clear hE3))
    go_region_held3 (fun w' => w'.cell? ⟨g2, 0, none⟩ = some (fv) ∧ w'.cell? ⟨g2, 1, none⟩ = some (mv) ∧ w'.cell? ⟨g2, 2, none⟩ = some (.int .i64 c.all) ∧ w'.cell? ⟨g3, 0, none⟩ = some (.int .i64 s.lines) ∧ w'.cell? ⟨g3, 1, none⟩ = some (kv)) (simp [*]) ((first | (go_at_call 75; ((with_reducible refine (Rtests_any _ _ c s _ (by first | exact CodeV.of hF hM HW.out | exact (CodeV.of hF hM HW.out).d) (by first | exact SheetV.of hK | exact (SheetV.of hK).d) Ho.out Hs.out).mono ?_); rintro e WcT ⟨v75, rfl, hO75, hEcT⟩; (try replace hEcT := Ext.undrew hEcT); (try replace hE := hE.trans hEcT); (try replace hF := hF.ext hEcT); (try replace hM := hM.ext hEcT); (try replace hK := hK.ext hEcT); (try replace hB2 := hB2.ext hEcT); (try replace hB3 := hB3.ext hEcT); (try replace hO75 := hO75.ext hEcT); (try replace hO47 := hO47.ext hEcT); (try replace hb2_0 := Ext.cell_some hEcT hb2_0); (try replace hb2_1 := Ext.cell_some hEcT hb2_1); (try replace hb2_2 := Ext.cell_some hEcT hb2_2); (try replace hb3_0 := Ext.cell_some hEcT hb3_0); (try replace hb3_1 := Ext.cell_some hEcT hb3_1))) | (go_at_call 47; ((with_reducible refine (Lost_any _ s s.lines.toNat _ (by first | exact SheetV.of hK | exact (SheetV.of hK).d) (by omega) (by omega)).mono ?_); rintro e WcL ⟨v47, rfl, hO47, hEcL⟩; (try replace hEcL := Ext.undrew hEcL); (try replace hE := hE.trans hEcL); (try replace hF := hF.ext hEcL); (try replace hM := hM.ext hEcL); (try replace hK := hK.ext hEcL); (try replace hB2 := hB2.ext hEcL); (try replace hB3 := hB3.ext hEcL); (try replace hO75 := hO75.ext hEcL); (try replace hO47 := hO47.ext hEcL); (try replace hb2_0 := Ext.cell_some hEcL hb2_0); (try replace hb2_1 := Ext.cell_some hEcL hb2_1); (try replace hb2_2 := Ext.cell_some hEcL hb2_2); (try replace hb3_0 := Ext.cell_some hEcL hb3_0); (try replace hb3_1 := Ext.cell_some hEcL hb3_1)))))
    go_wp2
    obtain ⟨Wl, hWl⟩ : ∃ W, W = WcL := ⟨_, rfl⟩
    subst hWl
    obtain ⟨ts, hts⟩ : ∃ ts, tests c s = ts := ⟨_, rfl⟩
    obtain ⟨lo, hlo⟩ : ∃ lo, s.lost = lo := ⟨_, rfl⟩
    rw [hts] at hO75 Hok Hlen
    rw [hlo] at hO47 hl3
    have Hn2 := Lib.hid (show ∀ j, ∀ ls ∈ combos j lo, ∀ n ∈ ls, 1 ≤ n ∧ ∀ t ∈ ts, n ≤ t.length by subst hts hlo; exact Hn.out)
    obtain ⟨A75, c75, rfl, qa, qb⟩ := hO75.ss.len
    obtain ⟨A47, c47, rfl, p1, p2, _, _⟩ := hO47.ints
    unfold maxLen at qb p2
    have Hts := Lib.hid hts; have Hlo := Lib.hid hlo
    clear hts hlo Hn
    go_loopw [9] (fun i wr => Ext Wl wr ∧ ∃ m : Nat, m ≤ lo.length ∧ i = .int .i64 m ∧ ∀ j, j < m → ∀ x ∈ combos j lo, enough c ts x = false) (fun i _ => lo.length - (intOf i).toNat)
    case atStart => exact ⟨Ext.refl _, 0, by omega, rfl, by simp⟩
    case round =>
      obtain ⟨hEr, m, hm, rfl, hfi⟩ := hrel
      (try replace hE := hE.trans hEr); (try replace hF := hF.ext hEr); (try replace hM := hM.ext hEr); (try replace hK := hK.ext hEr); (try replace hB2 := hB2.ext hEr); (try replace hB3 := hB3.ext hEr); (try replace hO75 := hO75.ext hEr); (try replace hO47 := hO47.ext hEr); (try replace hb2_0 := Ext.cell_some hEr hb2_0); (try replace hb2_1 := Ext.cell_some hEr hb2_1); (try replace hb2_2 := Ext.cell_some hEr hb2_2); (try replace hb3_0 := Ext.cell_some hEr hb3_0); (try replace hb3_1 := Ext.cell_some hEr hb3_1)
      have Hfi := Lib.hid hfi
      clear hfi
      by_cases hlt : m < lo.length
      · go_wp2_with (first | (go_at_call 66; ((with_reducible refine (Rsome_any m _ lo _ hO47.ints (by omega) (by omega)).mono ?_); rintro e WcS ⟨v66, rfl, hO66, hEc⟩; replace hEr := hEr.trans hEc; replace hE := hE.trans hEc; replace hF := hF.ext hEc; replace hM := hM.ext hEc; replace hO75 := hO75.ext hEc; replace hb2_0 := Ext.cell_some hEc hb2_0; replace hb2_1 := Ext.cell_some hEc hb2_1; replace hb2_2 := Ext.cell_some hEc hb2_2)))
        obtain ⟨Wm, hWm⟩ : ∃ W, W = WcS := ⟨_, rfl⟩
        subst hWm
        obtain ⟨cs, hcs⟩ : ∃ cs, combos m lo = cs := ⟨_, rfl⟩
        have hcl := combos_len lo m
        have h2p : 2 ^ lo.length ≤ 2 ^ 3 := Nat.pow_le_pow_right (by decide) (by omega)
        rw [hcs] at hO66 hcl
        obtain ⟨A66, c66, rfl, ra, rb⟩ := hO66.ss.len
        unfold maxLen at rb
        have Hcs := Lib.hid hcs
        have HEr := Lib.hid hEr
        have HE := Lib.hid hE
        clear hcs hcl h2p hEr hE hK hB2 hB3 hb3_0 hb3_1 hO47
        go_loopw [11] (fun i wr => Ext Wm wr ∧ ∃ k : Nat, k ≤ cs.length ∧ i = .int .i64 k ∧ ∀ x ∈ cs.take k, enough c ts x = false) (fun i _ => cs.length - (intOf i).toNat)
        case atStart => exact ⟨Ext.refl _, 0, by omega, rfl, by simp⟩
        case round =>
          obtain ⟨hEs, k, hk, rfl, hfj⟩ := hrel
          have Hfj := Lib.hid hfj
          clear hfj
          by_cases hkt : k < cs.length
          · obtain ⟨ad, u, rfl, e10, hu0⟩ := hO66.ss.at_ hkt
            have e1 := Ext.cell_some hEs e10
            have hu := hu0.ext hEs
            obtain ⟨Au, cu, rfl, hu1, hu2, _⟩ := hu.ints
            have d0 := Ext.cell_some hEs hb2_0; have d1 := Ext.cell_some hEs hb2_1; have d2 := Ext.cell_some hEs hb2_2
            have kF := hF.ext hEs; have kM := hM.ext hEs; have kT := hO75.ext hEs
            have Hnk := Lib.hid (Hn2.out m _ (by rw [Hcs.out]; exact List.getElem_mem hkt))
            clear hO66 e10 hu0 hb2_0 hb2_1 hb2_2 hF hM hO75
            by_cases hp : enough c ts cs[k] = true
            · have Hr := Lib.hid (show fewestAns c s = (cs[k], 0) by
                have h1 := Hts.out; have h2 := Hlo.out; have h3 := Hcs.out; subst h1 h2 h3
                exact fewest_found Ha.out (by omega) Hfi.out (find_at hkt hp Hfj.out))
              have Hp := Lib.hid hp
              go_wp2_with fail
              go_region_held3 (fun w' => w'.cell? ((⟨g2, 0, none⟩)) = some (fv) ∧ w'.cell? ((⟨g2, 1, none⟩)) = some (mv) ∧ w'.cell? ((⟨g2, 2, none⟩)) = some (.int .i64 c.all) ∧ w'.cell? (ad.add k) = some (.slice Au cs[k].length cu)) (simp [*]) ((first | (go_at_call 81; ((with_reducible refine (Renough_any _ _ _ c ts cs[k] _ (by first | exact CodeV.of kF kM HW.out | exact (CodeV.of kF kM HW.out).d) (by first | exact kT.ss | exact (kT.ss).d) (by first | exact hu.ints | exact (hu.ints).d) Ho.out Hok.out (by have := Hlen.out; omega) Hnk.out).mono ?_); rintro e Wc4 ⟨rfl, hEc4⟩; (try replace hEc4 := Ext.undrew hEc4); (try replace hE := hE.trans hEc4); (try replace hEr := hEr.trans hEc4); (try replace hEs := hEs.trans hEc4); (try replace kF := kF.ext hEc4); (try replace kM := kM.ext hEc4); (try replace kT := kT.ext hEc4); (try replace hu := hu.ext hEc4); (try replace hb2_0 := Ext.cell_some hEc4 hb2_0); (try replace hb2_1 := Ext.cell_some hEc4 hb2_1); (try replace hb2_2 := Ext.cell_some hEc4 hb2_2); (try replace hb3_0 := Ext.cell_some hEc4 hb3_0); (try replace hb3_1 := Ext.cell_some hEc4 hb3_1); (try replace e1 := Ext.cell_some hEc4 e1); (try replace d0 := Ext.cell_some hEc4 d0); (try replace d1 := Ext.cell_some hEc4 d1); (try replace d2 := Ext.cell_some hEc4 d2)))))
              go_wp2
              go_ret2
              exact ⟨_, by rw [Hr.out]; rfl, by rw [Hr.out]; exact hu, HE.out.trans hEs⟩
            · simp only [Bool.not_eq_true] at hp
              have Hp := Lib.hid hp
              go_wp2_with fail
              go_region_held3 (fun w' => w'.cell? ((⟨g2, 0, none⟩)) = some (fv) ∧ w'.cell? ((⟨g2, 1, none⟩)) = some (mv) ∧ w'.cell? ((⟨g2, 2, none⟩)) = some (.int .i64 c.all) ∧ w'.cell? (ad.add k) = some (.slice Au cs[k].length cu)) (simp [*]) ((first | (go_at_call 81; ((with_reducible refine (Renough_any _ _ _ c ts cs[k] _ (by first | exact CodeV.of kF kM HW.out | exact (CodeV.of kF kM HW.out).d) (by first | exact kT.ss | exact (kT.ss).d) (by first | exact hu.ints | exact (hu.ints).d) Ho.out Hok.out (by have := Hlen.out; omega) Hnk.out).mono ?_); rintro e Wc5 ⟨rfl, hEc5⟩; (try replace hEc5 := Ext.undrew hEc5); (try replace hE := hE.trans hEc5); (try replace hEr := hEr.trans hEc5); (try replace hEs := hEs.trans hEc5); (try replace kF := kF.ext hEc5); (try replace kM := kM.ext hEc5); (try replace kT := kT.ext hEc5); (try replace hu := hu.ext hEc5); (try replace hb2_0 := Ext.cell_some hEc5 hb2_0); (try replace hb2_1 := Ext.cell_some hEc5 hb2_1); (try replace hb2_2 := Ext.cell_some hEc5 hb2_2); (try replace hb3_0 := Ext.cell_some hEc5 hb3_0); (try replace hb3_1 := Ext.cell_some hEc5 hb3_1); (try replace e1 := Ext.cell_some hEc5 e1); (try replace d0 := Ext.cell_some hEc5 d0); (try replace d1 := Ext.cell_some hEc5 d1); (try replace d2 := Ext.cell_some hEc5 d2)))))
              go_wp2
              go_roundw
              case rel => exact ⟨hEs, k + 1, by omega, by go_num, none_take_snoc hkt Hfj.out Hp.out⟩
              case measure => simp [intOf]; omega
          · obtain rfl : k = cs.length := by omega
            have Hfk := Lib.hid (le_succ_find Hfi.out (show ∀ x ∈ combos m lo, enough c ts x = false by rw [Hcs.out]; intro x hx; exact Hfj.out x (by rw [List.take_length]; exact hx)))
            go_wp2
            go_roundw
            case rel => exact ⟨HEr.out.trans hEs, m + 1, by omega, by go_num, Hfk.out⟩
            case measure => simp [intOf]; omega
      · obtain rfl : m = lo.length := by omega
        have Hr := Lib.hid (show fewestAns c s = (lo, 0) by
                have h1 := Hts.out; have h2 := Hlo.out; subst h1 h2
                exact fewest_all Ha.out Hfi.out)
        go_wp2
        go_ret2
        exact ⟨_, by rw [Hr.out]; rfl, by rw [Hr.out]; exact IntB.of_own hO47, hE⟩
  · have q1 : (fittingErr c s != 0) = true := by simp [ha]
    have Hr := Lib.hid (fewest_e ha)
    clear ha
    rw [Hr.out]
    go_enter Tryz.func37, Tryz.ntmps37
    go_wp2_with (first | (go_at_call 78; ((with_reducible refine (Rfitting_any _ _ c s _ (by exact CodeV.of hF hM HW.out) (by exact SheetV.of hK)).mono ?_); rintro e Wc1 ⟨rfl, hEc1⟩; (try replace hEc1 := Ext.undrew hEc1); (try replace hE := hE.trans hEc1); (try replace hF := hF.ext hEc1); (try replace hM := hM.ext hEc1); (try replace hK := hK.ext hEc1); (try replace hB2 := hB2.ext hEc1); (try replace hB3 := hB3.ext hEc1); (try replace hb2_0 := Ext.cell_some hEc1 hb2_0); (try replace hb2_1 := Ext.cell_some hEc1 hb2_1); (try replace hb2_2 := Ext.cell_some hEc1 hb2_2); (try replace hb3_0 := Ext.cell_some hEc1 hb3_0); (try replace hb3_1 := Ext.cell_some hEc1 hb3_1))) | ((with_reducible refine q_box (d := some 2) ?_); intro W2 g2 hE2 hB2 hg2; simp [Act.eval, Act.put, Value.cells] at hB2; (try replace hE := hE.trans hE2); (try replace hF := hF.ext hE2); (try replace hM := hM.ext hE2); (try replace hK := hK.ext hE2); (try replace hB2 := hB2.ext hE2); (try replace hB3 := hB3.ext hE2); (try replace hb2_0 := Ext.cell_some hE2 hb2_0); (try replace hb2_1 := Ext.cell_some hE2 hb2_1); (try replace hb2_2 := Ext.cell_some hE2 hb2_2); (try replace hb3_0 := Ext.cell_some hE2 hb3_0); (try replace hb3_1 := Ext.cell_some hE2 hb3_1); have hb2_0 := hB2.cell 0; have hb2_1 := hB2.cell 1; have hb2_2 := hB2.cell 2; simp at hb2_0 hb2_1 hb2_2; clear hE2) | ((with_reducible refine q_box (d := some 3) ?_); intro W3 g3 hE3 hB3 hg3; simp [Act.eval, Act.put, Value.cells] at hB3; (try replace hE := hE.trans hE3); (try replace hF := hF.ext hE3); (try replace hM := hM.ext hE3); (try replace hK := hK.ext hE3); (try replace hB2 := hB2.ext hE3); (try replace hB3 := hB3.ext hE3); (try replace hb2_0 := Ext.cell_some hE3 hb2_0); (try replace hb2_1 := Ext.cell_some hE3 hb2_1); (try replace hb2_2 := Ext.cell_some hE3 hb2_2); (try replace hb3_0 := Ext.cell_some hE3 hb3_0); (try replace hb3_1 := Ext.cell_some hE3 hb3_1); have hb3_0 := hB3.cell 0; have hb3_1 := hB3.cell 1; simp at hb3_0 hb3_1; clear hE3))
    go_ret2
    exact ⟨_, rfl, IntB.nil _, hE⟩
theorem helps_f1 {c : Code} {t ls : List Int} (h : (without c t ls).2 = false) : helps c t ls = false := by unfold helps; rw [h]; rfl
theorem helps_t {c : Code} {t ls : List Int} (h : (without c t ls).2 = true) : helps c t ls = c.passed (without c t ls).1 := by unfold helps; rw [h]; rfl
set_option maxHeartbeats 3000000 in
theorem RAppeal_any (cv tv : Value) (c : Code) (t : List Int) (w : World) (h : CodeV w cv c) (ht : Ints w tv t) :
    Calls Tryz.prog 22 #[cv, tv] w (RetOI w (appealAns c t).1 (appealAns c t).2) := by
  obtain ⟨fv, mv, rfl, hF, hM, hW⟩ := h
  have hT := ht
  obtain ⟨At, ct, rfl, t1, t2, t3, t4⟩ := ht
  unfold maxLen at t2
  have hE := Ext.refl w
  have HW := Lib.hid hW
  clear hW t3 t4
  by_cases ha : c.whole t = 0
  · obtain ⟨ho, htk, h1⟩ := Code.whole_zero ha
    have Ho := Lib.hid ho; have Htk := Lib.hid htk
    have ht12 := htk.1
    have q1 : (c.whole t != 0) = false := by simp [ha]
    have Ha := Lib.hid ha
    clear ha ho htk
    go_enter Tryz.func22, Tryz.ntmps22
    go_wp2_with (first | (go_at_call 62; ((with_reducible refine (RWhole_any _ _ c t _ (by exact CodeV.of hF hM HW.out) (by exact hT)).mono ?_); rintro e WcL ⟨rfl, hEcL⟩; (try replace hEcL := Ext.undrew hEcL); (try replace hE := hE.trans hEcL); (try replace hF := hF.ext hEcL); (try replace hM := hM.ext hEcL); (try replace hT := hT.ext hEcL); (try replace hB2 := hB2.ext hEcL); (try replace hb2_0 := Ext.cell_some hEcL hb2_0); (try replace hb2_1 := Ext.cell_some hEcL hb2_1); (try replace hb2_2 := Ext.cell_some hEcL hb2_2))) | ((with_reducible refine q_box (d := some 2) ?_); intro W2 g2 hE2 hB2 hg2; simp [Act.eval, Act.put, Value.cells] at hB2; (try replace hE := hE.trans hE2); (try replace hF := hF.ext hE2); (try replace hM := hM.ext hE2); (try replace hT := hT.ext hE2); (try replace hB2 := hB2.ext hE2); (try replace hb2_0 := Ext.cell_some hE2 hb2_0); (try replace hb2_1 := Ext.cell_some hE2 hb2_1); (try replace hb2_2 := Ext.cell_some hE2 hb2_2); have hb2_0 := hB2.cell 0; have hb2_1 := hB2.cell 1; have hb2_2 := hB2.cell 2; simp at hb2_0 hb2_1 hb2_2; clear hE2))
    obtain ⟨Wl, hWl⟩ : ∃ W, W = WcL := ⟨_, rfl⟩
    subst hWl
    go_loopw [7] (fun i wr => Ext Wl wr ∧ ∃ m : Nat, m ≤ t.length + 1 ∧ i = .int .i64 m ∧ ∀ j, j < m → ∀ x ∈ combos j (numbers t.length), helps c t x = false) (fun i _ => t.length + 1 - (intOf i).toNat)
    case atStart => exact ⟨Ext.refl _, 0, by omega, rfl, by simp⟩
    case round =>
      obtain ⟨hEr, m, hm, rfl, hfi⟩ := hrel
      (try replace hE := hE.trans hEr); (try replace hF := hF.ext hEr); (try replace hM := hM.ext hEr); (try replace hT := hT.ext hEr); (try replace hB2 := hB2.ext hEr); (try replace hb2_0 := Ext.cell_some hEr hb2_0); (try replace hb2_1 := Ext.cell_some hEr hb2_1); (try replace hb2_2 := Ext.cell_some hEr hb2_2)
      have Hfi := Lib.hid hfi
      clear hfi
      by_cases hlt : m ≤ t.length
      · go_wp2_with (first | (go_at_call 67; ((with_reducible refine (numbers_any t.length _ (by omega)).mono ?_); rintro e WcN ⟨v67, rfl, hO67, hEc⟩; replace hEr := hEr.trans hEc; replace hE := hE.trans hEc; replace hF := hF.ext hEc; replace hM := hM.ext hEc; replace hT := hT.ext hEc; replace hb2_0 := Ext.cell_some hEc hb2_0; replace hb2_1 := Ext.cell_some hEc hb2_1; replace hb2_2 := Ext.cell_some hEc hb2_2)) | (go_at_call 66; ((with_reducible refine (Rsome_any m _ (numbers t.length) _ hO67.ints (by rw [numbers_len]; omega) (by omega)).mono ?_); rintro e WcS ⟨v66, rfl, hO66, hEc⟩; replace hEr := hEr.trans hEc; replace hE := hE.trans hEc; replace hF := hF.ext hEc; replace hM := hM.ext hEc; replace hT := hT.ext hEc; replace hb2_0 := Ext.cell_some hEc hb2_0; replace hb2_1 := Ext.cell_some hEc hb2_1; replace hb2_2 := Ext.cell_some hEc hb2_2)))
        obtain ⟨Wm, hWm⟩ : ∃ W, W = WcS := ⟨_, rfl⟩
        subst hWm
        obtain ⟨cs, hcs⟩ : ∃ cs, combos m (numbers t.length) = cs := ⟨_, rfl⟩
        rw [hcs] at hO66
        obtain ⟨A66, c66, rfl, ra, rb⟩ := hO66.ss.len
        unfold maxLen at rb
        have Hcs := Lib.hid hcs
        have HEr := Lib.hid hEr
        have HE := Lib.hid hE
        clear hcs hEr hE hO67 hB2
        go_loopw [9] (fun i wr => Ext Wm wr ∧ ∃ k : Nat, k ≤ cs.length ∧ i = .int .i64 k ∧ ∀ x ∈ cs.take k, helps c t x = false) (fun i _ => cs.length - (intOf i).toNat)
        case atStart => exact ⟨Ext.refl _, 0, by omega, rfl, by simp⟩
        case round =>
          obtain ⟨hEs, k, hk, rfl, hfj⟩ := hrel
          have Hfj := Lib.hid hfj
          clear hfj
          by_cases hkt : k < cs.length
          · obtain ⟨ad, u, rfl, e10, hu0⟩ := hO66.ss.at_ hkt
            have e1 := Ext.cell_some hEs e10
            have hu := hu0.ext hEs
            obtain ⟨Au, cu, rfl, hu1, hu2, _⟩ := hu.ints
            have d0 := Ext.cell_some hEs hb2_0; have d1 := Ext.cell_some hEs hb2_1; have d2 := Ext.cell_some hEs hb2_2
            have kF := hF.ext hEs; have kM := hM.ext hEs; have kT := hT.ext hEs
            clear hO66 e10 hu0 hb2_0 hb2_1 hb2_2 hF hM hT
            have Hlk := Lib.hid (left_ok (ls := cs[k]) Htk.out)
            cases hb : (without c t cs[k]).2 with
            | false =>
              have Hp := Lib.hid (helps_f1 hb)
              go_wp2_with fail
              go_region_held3 (fun w' => w'.cell? ((⟨g2, 0, none⟩)) = some (fv) ∧ w'.cell? ((⟨g2, 1, none⟩)) = some (mv) ∧ w'.cell? ((⟨g2, 2, none⟩)) = some (.int .i64 c.all) ∧ w'.cell? (ad.add k) = some (.slice Au cs[k].length cu)) (simp [*]) ((first | (go_at_call 50; ((with_reducible refine (Without_any _ _ _ c t cs[k] _ (by first | exact CodeV.of kF kM HW.out | exact (CodeV.of kF kM HW.out).d) (by first | exact kT | exact (kT).d) (by first | exact hu.ints | exact (hu.ints).d) (by omega)).mono ?_); rintro e Wc2 ⟨v50, rfl, hO50, hEc2⟩; (try replace hEc2 := Ext.undrew hEc2); (try replace hE := hE.trans hEc2); (try replace hEr := hEr.trans hEc2); (try replace hEs := hEs.trans hEc2); (try replace kF := kF.ext hEc2); (try replace kM := kM.ext hEc2); (try replace kT := kT.ext hEc2); (try replace hu := hu.ext hEc2); (try replace hO50 := hO50.ext hEc2); (try replace hb2_0 := Ext.cell_some hEc2 hb2_0); (try replace hb2_1 := Ext.cell_some hEc2 hb2_1); (try replace hb2_2 := Ext.cell_some hEc2 hb2_2); (try replace e1 := Ext.cell_some hEc2 e1); (try replace d0 := Ext.cell_some hEc2 d0); (try replace d1 := Ext.cell_some hEc2 d1); (try replace d2 := Ext.cell_some hEc2 d2)))))
              go_wp2
              go_roundw
              case rel => exact ⟨hEs, k + 1, by omega, by go_num, none_take_snoc hkt Hfj.out Hp.out⟩
              case measure => simp [intOf]; omega
            | true =>
              have Hp := Lib.hid (helps_t hb)
              cases hp : c.passed (without c t cs[k]).1 with
              | false =>
                rw [hp] at Hp
                go_wp2_with fail
                go_region_held3 (fun w' => w'.cell? ((⟨g2, 0, none⟩)) = some (fv) ∧ w'.cell? ((⟨g2, 1, none⟩)) = some (mv) ∧ w'.cell? ((⟨g2, 2, none⟩)) = some (.int .i64 c.all) ∧ w'.cell? (ad.add k) = some (.slice Au cs[k].length cu)) (simp [*]) ((first | (go_at_call 50; ((with_reducible refine (Without_any _ _ _ c t cs[k] _ (by first | exact CodeV.of kF kM HW.out | exact (CodeV.of kF kM HW.out).d) (by first | exact kT | exact (kT).d) (by first | exact hu.ints | exact (hu.ints).d) (by omega)).mono ?_); rintro e Wc3 ⟨v50, rfl, hO50, hEc3⟩; (try replace hEc3 := Ext.undrew hEc3); (try replace hE := hE.trans hEc3); (try replace hEr := hEr.trans hEc3); (try replace hEs := hEs.trans hEc3); (try replace kF := kF.ext hEc3); (try replace kM := kM.ext hEc3); (try replace kT := kT.ext hEc3); (try replace hu := hu.ext hEc3); (try replace hO50 := hO50.ext hEc3); (try replace hb2_0 := Ext.cell_some hEc3 hb2_0); (try replace hb2_1 := Ext.cell_some hEc3 hb2_1); (try replace hb2_2 := Ext.cell_some hEc3 hb2_2); (try replace e1 := Ext.cell_some hEc3 e1); (try replace d0 := Ext.cell_some hEc3 d0); (try replace d1 := Ext.cell_some hEc3 d1); (try replace d2 := Ext.cell_some hEc3 d2)))))
                go_wp2_with (first | (go_at_call 51; ((with_reducible refine (RPassed_any _ _ c (without c t cs[k]).1 _ (by exact CodeV.of kF kM HW.out) (by exact hO50.ints) Ho.out Hlk.out).mono ?_); rintro e Wc4 ⟨rfl, hEc4⟩; (try replace hEc4 := Ext.undrew hEc4); (try replace hE := hE.trans hEc4); (try replace hEr := hEr.trans hEc4); (try replace hEs := hEs.trans hEc4); (try replace kF := kF.ext hEc4); (try replace kM := kM.ext hEc4); (try replace kT := kT.ext hEc4); (try replace hu := hu.ext hEc4); (try replace hO50 := hO50.ext hEc4); (try replace hB2 := hB2.ext hEc4); (try replace hb2_0 := Ext.cell_some hEc4 hb2_0); (try replace hb2_1 := Ext.cell_some hEc4 hb2_1); (try replace hb2_2 := Ext.cell_some hEc4 hb2_2); (try replace e1 := Ext.cell_some hEc4 e1); (try replace d0 := Ext.cell_some hEc4 d0); (try replace d1 := Ext.cell_some hEc4 d1); (try replace d2 := Ext.cell_some hEc4 d2))) | ((with_reducible refine q_box (d := some 2) ?_); intro W2 g2 hE2 hB2 hg2; simp [Act.eval, Act.put, Value.cells] at hB2; (try replace hE := hE.trans hE2); (try replace hEr := hEr.trans hE2); (try replace hEs := hEs.trans hE2); (try replace kF := kF.ext hE2); (try replace kM := kM.ext hE2); (try replace kT := kT.ext hE2); (try replace hu := hu.ext hE2); (try replace hO50 := hO50.ext hE2); (try replace hB2 := hB2.ext hE2); (try replace hb2_0 := Ext.cell_some hE2 hb2_0); (try replace hb2_1 := Ext.cell_some hE2 hb2_1); (try replace hb2_2 := Ext.cell_some hE2 hb2_2); (try replace e1 := Ext.cell_some hE2 e1); (try replace d0 := Ext.cell_some hE2 d0); (try replace d1 := Ext.cell_some hE2 d1); (try replace d2 := Ext.cell_some hE2 d2); have hb2_0 := hB2.cell 0; have hb2_1 := hB2.cell 1; have hb2_2 := hB2.cell 2; simp at hb2_0 hb2_1 hb2_2; clear hE2))
                go_roundw
                case rel => exact ⟨hEs, k + 1, by omega, by go_num, none_take_snoc hkt Hfj.out Hp.out⟩
                case measure => simp [intOf]; omega
              | true =>
                rw [hp] at Hp
                have Hr := Lib.hid (show appealAns c t = (cs[k], 0) by
                  have h3 := Hcs.out; subst h3
                  exact appeal_found Ha.out (by omega) Hfi.out (find_at hkt Hp.out Hfj.out))
                go_wp2_with fail
                go_region_held3 (fun w' => w'.cell? ((⟨g2, 0, none⟩)) = some (fv) ∧ w'.cell? ((⟨g2, 1, none⟩)) = some (mv) ∧ w'.cell? ((⟨g2, 2, none⟩)) = some (.int .i64 c.all) ∧ w'.cell? (ad.add k) = some (.slice Au cs[k].length cu)) (simp [*]) ((first | (go_at_call 50; ((with_reducible refine (Without_any _ _ _ c t cs[k] _ (by first | exact CodeV.of kF kM HW.out | exact (CodeV.of kF kM HW.out).d) (by first | exact kT | exact (kT).d) (by first | exact hu.ints | exact (hu.ints).d) (by omega)).mono ?_); rintro e Wc5 ⟨v50, rfl, hO50, hEc5⟩; (try replace hEc5 := Ext.undrew hEc5); (try replace hE := hE.trans hEc5); (try replace hEr := hEr.trans hEc5); (try replace hEs := hEs.trans hEc5); (try replace kF := kF.ext hEc5); (try replace kM := kM.ext hEc5); (try replace kT := kT.ext hEc5); (try replace hu := hu.ext hEc5); (try replace hO50 := hO50.ext hEc5); (try replace hB2 := hB2.ext hEc5); (try replace hb2_0 := Ext.cell_some hEc5 hb2_0); (try replace hb2_1 := Ext.cell_some hEc5 hb2_1); (try replace hb2_2 := Ext.cell_some hEc5 hb2_2); (try replace e1 := Ext.cell_some hEc5 e1); (try replace d0 := Ext.cell_some hEc5 d0); (try replace d1 := Ext.cell_some hEc5 d1); (try replace d2 := Ext.cell_some hEc5 d2)))))
                go_wp2_with (first | (go_at_call 51; ((with_reducible refine (RPassed_any _ _ c (without c t cs[k]).1 _ (by exact CodeV.of kF kM HW.out) (by exact hO50.ints) Ho.out Hlk.out).mono ?_); rintro e Wc6 ⟨rfl, hEc6⟩; (try replace hEc6 := Ext.undrew hEc6); (try replace hE := hE.trans hEc6); (try replace hEr := hEr.trans hEc6); (try replace hEs := hEs.trans hEc6); (try replace kF := kF.ext hEc6); (try replace kM := kM.ext hEc6); (try replace kT := kT.ext hEc6); (try replace hu := hu.ext hEc6); (try replace hO50 := hO50.ext hEc6); (try replace hB2 := hB2.ext hEc6); (try replace hb2_0 := Ext.cell_some hEc6 hb2_0); (try replace hb2_1 := Ext.cell_some hEc6 hb2_1); (try replace hb2_2 := Ext.cell_some hEc6 hb2_2); (try replace e1 := Ext.cell_some hEc6 e1); (try replace d0 := Ext.cell_some hEc6 d0); (try replace d1 := Ext.cell_some hEc6 d1); (try replace d2 := Ext.cell_some hEc6 d2))) | ((with_reducible refine q_box (d := some 2) ?_); intro W2 g2 hE2 hB2 hg2; simp [Act.eval, Act.put, Value.cells] at hB2; (try replace hE := hE.trans hE2); (try replace hEr := hEr.trans hE2); (try replace hEs := hEs.trans hE2); (try replace kF := kF.ext hE2); (try replace kM := kM.ext hE2); (try replace kT := kT.ext hE2); (try replace hu := hu.ext hE2); (try replace hO50 := hO50.ext hE2); (try replace hB2 := hB2.ext hE2); (try replace hb2_0 := Ext.cell_some hE2 hb2_0); (try replace hb2_1 := Ext.cell_some hE2 hb2_1); (try replace hb2_2 := Ext.cell_some hE2 hb2_2); (try replace e1 := Ext.cell_some hE2 e1); (try replace d0 := Ext.cell_some hE2 d0); (try replace d1 := Ext.cell_some hE2 d1); (try replace d2 := Ext.cell_some hE2 d2); have hb2_0 := hB2.cell 0; have hb2_1 := hB2.cell 1; have hb2_2 := hB2.cell 2; simp at hb2_0 hb2_1 hb2_2; clear hE2))
                go_ret2
                exact ⟨_, by rw [Hr.out]; rfl, by rw [Hr.out]; exact hu, HE.out.trans hEs⟩
          · obtain rfl : k = cs.length := by omega
            have Hfk := Lib.hid (le_succ_find Hfi.out (show ∀ x ∈ combos m (numbers t.length), helps c t x = false by rw [Hcs.out]; intro x hx; exact Hfj.out x (by rw [List.take_length]; exact hx)))
            go_wp2
            go_roundw
            case rel => exact ⟨HEr.out.trans hEs, m + 1, by omega, by go_num, Hfk.out⟩
            case measure => simp [intOf]; omega
      · obtain rfl : m = t.length + 1 := by omega
        have Hr := Lib.hid (appeal_none Ha.out (fun j hj => Hfi.out j (by omega)))
        go_wp2
        go_ret2
        exact ⟨_, by rw [Hr.out]; rfl, by rw [Hr.out]; exact IntB.nil _, hE⟩
  · have q1 : (c.whole t != 0) = true := by simp [ha]
    have Hr := Lib.hid (appeal_e ha)
    clear ha
    rw [Hr.out]
    go_enter Tryz.func22, Tryz.ntmps22
    go_wp2_with (first | (go_at_call 62; ((with_reducible refine (RWhole_any _ _ c t _ (by exact CodeV.of hF hM HW.out) (by exact hT)).mono ?_); rintro e Wc1 ⟨rfl, hEc1⟩; (try replace hEc1 := Ext.undrew hEc1); (try replace hE := hE.trans hEc1); (try replace hF := hF.ext hEc1); (try replace hM := hM.ext hEc1); (try replace hT := hT.ext hEc1); (try replace hB2 := hB2.ext hEc1); (try replace hb2_0 := Ext.cell_some hEc1 hb2_0); (try replace hb2_1 := Ext.cell_some hEc1 hb2_1); (try replace hb2_2 := Ext.cell_some hEc1 hb2_2))) | ((with_reducible refine q_box (d := some 2) ?_); intro W2 g2 hE2 hB2 hg2; simp [Act.eval, Act.put, Value.cells] at hB2; (try replace hE := hE.trans hE2); (try replace hF := hF.ext hE2); (try replace hM := hM.ext hE2); (try replace hT := hT.ext hE2); (try replace hB2 := hB2.ext hE2); (try replace hb2_0 := Ext.cell_some hE2 hb2_0); (try replace hb2_1 := Ext.cell_some hE2 hb2_1); (try replace hb2_2 := Ext.cell_some hE2 hb2_2); have hb2_0 := hB2.cell 0; have hb2_1 := hB2.cell 1; have hb2_2 := hB2.cell 2; simp at hb2_0 hb2_1 hb2_2; clear hE2))
    go_ret2
    exact ⟨_, rfl, IntB.nil _, hE⟩
end Go.Bp
end
section
/- Slices of lines: literals, appends. -/
set_option maxRecDepth 100000
namespace Go.Bp
open Go.RowKit Go.Proofs
theorem ti39 : (Tryz.prog.info? 39).map (fun i => (i.zero, i.size, i.bytes)) = some (some (.agg #[.int .i64 0, .slice none 0 0]), 2, 32) := by kernel_rfl
theorem ti25 : (Tryz.prog.info? 25).map (fun i => (i.zero, i.size, i.bytes)) = some (some (.agg #[.slice none 0 0, .slice none 0 0, .int .i64 0]), 3, 56) := by kernel_rfl
theorem size39 : (Tryz.prog.info? 39).map TypeInfo.size = some 2 := by kernel_rfl
theorem size37 : (Tryz.prog.info? 37).map TypeInfo.size = some 1 := by kernel_rfl
theorem size26 : (Tryz.prog.info? 26).map TypeInfo.size = some 1 := by kernel_rfl
theorem info39 : ∃ i, Tryz.prog.info? 39 = some i ∧ i.size = 2 := size_of size39
theorem run_bslice3 (P : Program) (w : World) {t e : TypeId} {v z a b c : Value} (ht : P.underlying t = some (.slice e)) (hi : (P.info? e).map (fun i => (i.zero, i.size)) = some (some z, 3)) (hz : z.cells.size = 3) (hv : v.cells = #[a, b, c]) :
    (Instr.buildSlice t 1 #[(0, v)]).run P w = .ok (.slice (some ⟨w.heap.size, 0, none⟩) 1 1) (w.alloc (.cells #[a, b, c] e)) := by
  cases h : P.info? e with
  | none => rw [h] at hi; cases hi
  | some i =>
    rw [h] at hi
    simp only [Option.map_some, Option.some.injEq, Prod.mk.injEq] at hi
    obtain ⟨h0, h1⟩ := hi
    cases i
    dsimp only at h0 h1
    subst h0 h1
    have h3 : Array.range 3 = #[0, 1, 2] := by decide
    simp [Instr.buildSlice, run_underlying ht, sizeOf, typeInfo, zeroValue, h, Instr.fill, hz, hv, newRow, newObj, Sem.run, h3]
section
variable {ops : Array Oper} {Q : Exit → Act → World → Prop} {a : Act} {w : World} {rest : List Oper}
variable {d : Option Tmp} {ty : TypeId} {pos : String} {after : Array Edge}
theorem q_bsL {x : Operand} {p q r : Int} (hx : a.eval x = .agg #[.int .i64 p, .int .i64 q, .int .i64 r])
    (k : ∀ W g, Ext w W → Blk W g 99 #[.int .i64 p, .int .i64 q, .int .i64 r] → w.heap.size ≤ g → wpList Tryz.prog ops Q rest (a.put d (.slice (some ⟨g, 0, none⟩) 1 1)) W) :
    wpList Tryz.prog ops Q (⟨d, .buildSlice 37 1 #[(0, x)], ty, pos, after, none⟩ :: rest) a w :=
  q_bslice (by have := run_bslice3 Tryz.prog w (v := a.eval x) (a := .int .i64 p) (b := .int .i64 q) (c := .int .i64 r) Tryz.underlying37 (ti2 ti99) rfl (by rw [hx]; rfl); simpa using this) k
/-- 'out = append(out, x)', out []ShLine. -/
theorem q_appL {s x : Operand} {B g : Nat} {v : Value} {xs : List Line} {y : Line} (hs : a.eval s = v) (hO : OwnL B w v xs) (hx : a.eval x = .slice (some ⟨g, 0, none⟩) 1 1) (hb : Blk w g 99 #[.int .i64 y.no, .int .i64 y.what, .int .i64 y.sum]) (hlen : xs.length ≤ 1000000000) (hB : B ≤ w.heap.size)
    (k : ∀ v' W, OwnL B W v' (xs ++ [y]) → (∀ w0, Below B w0 w → Below B w0 W) → w.grownBy W v.ownBlock → wpList Tryz.prog ops Q rest (a.put d v') W) :
    wpList Tryz.prog ops Q (⟨d, .call { callee := .builtin .append, args := #[s, x], argTypes := #[37, 37] }, ty, pos, after, none⟩ :: rest) a w := by
  refine q_append Tryz.underlying37 ti99 rfl (by decide) hs hO hx (fun _ => ⟨_, rfl, hb.cells⟩) (by simp) (by simp [Value.oneCell']) (by omega) (by unfold maxLen; omega) hB ?_
  intro v' W h1 h2 _
  refine k v' W ?_ (fun w0 h0 => grown_ext h0 hO h2 hB) h2
  unfold OwnL
  have e : encL (xs ++ [y]) = encL xs ++ [.int .i64 y.no, .int .i64 y.what, .int .i64 y.sum] := by rw [encL_app]; rfl
  rw [e]
  simpa using h1
end
/-- A sheet, by value, and a number. -/
def RetSI (w : World) (s : Sheet) (b : Int) (e : Ending) (w' : World) : Prop := ∃ v, e = .returned (.tuple #[v, .int .i64 b]) ∧ SheetV w' v s ∧ Ext w w'
theorem ld_sheet {w : World} {g : Nat} {n : Int} {kv : Value} (h : Blk w g 39 #[.int .i64 n, kv]) : (loadVar 39 ⟨g, 0, none⟩).run Tryz.prog w = .ok (.agg #[.int .i64 n, kv]) w := by
  obtain ⟨i, hi, hs⟩ := info39
  exact load_struct (cs := [.int .i64 n, kv]) Tryz.underlying39 hi (by rw [hs]; rfl) (by simpa using h.cells)
end Go.Bp
end
section
set_option maxRecDepth 100000
set_option linter.unusedSimpArgs false
set_option linter.unusedVariables false
namespace Go.Bp
open Go.RowKit Go.Proofs
theorem keepErr_w {c : Code} {t lo : List Int} (h : c.whole t ≠ 0) : keepErr c t lo = c.whole t := by unfold keepErr; rw [if_pos h]
theorem keepErr_r {c : Code} {t lo : List Int} (h : c.whole t = 0) (h2 : rising (hasB (numbers t.length)) lo ≠ 0) : keepErr c t lo = rising (hasB (numbers t.length)) lo := by unfold keepErr; rw [if_neg (by simp [h]), if_pos h2]
theorem keepErr_3 {c : Code} {t lo : List Int} (h : c.whole t = 0) (h2 : rising (hasB (numbers t.length)) lo = 0) (h3 : ¬ lo.length ≤ 3) : keepErr c t lo = 3 := by unfold keepErr; rw [if_neg (by simp [h]), if_neg (by simp [h2]), if_neg h3]
theorem keepErr_0 {c : Code} {t lo : List Int} (h : c.whole t = 0) (h2 : rising (hasB (numbers t.length)) lo = 0) (h3 : lo.length ≤ 3) : keepErr c t lo = 0 := by unfold keepErr; rw [if_neg (by simp [h]), if_neg (by simp [h2]), if_pos h3]
theorem keep_e {c : Code} {t lo : List Int} (h : keepErr c t lo ≠ 0) : keepAns c t lo = (⟨0, []⟩, keepErr c t lo) := by unfold keepAns; rw [if_pos h]
theorem keep_0 {c : Code} {t lo : List Int} (h : keepErr c t lo = 0) : keepAns c t lo = (⟨t.length, keptTo c t lo t.length⟩, 0) := by unfold keepAns; rw [if_neg (by simp [h])]
set_option maxHeartbeats 4000000 in
theorem RKeep_any (cv tv lv : Value) (c : Code) (t lo : List Int) (w : World) (h : CodeV w cv c) (ht : Ints w tv t) (hl : Ints w lv lo) :
    Calls Tryz.prog 26 #[cv, tv, lv] w (RetSI w (keepAns c t lo).1 (keepAns c t lo).2) := by
  obtain ⟨fv, mv, rfl, hF, hM, hW⟩ := h
  have hT := ht
  obtain ⟨At, ct, rfl, t1, t2, t3, t4⟩ := ht
  have hL := hl
  obtain ⟨Al, cl, rfl, l1, l2, l3, l4⟩ := hl
  unfold maxLen at t2 l2
  have hE := Ext.refl w
  have HW := Lib.hid hW
  clear hW t3 l3 l4
  by_cases ha : c.whole t = 0
  · obtain ⟨ho, htk, h1⟩ := Code.whole_zero ha
    have Ho := Lib.hid ho; have Htk := Lib.hid htk
    have ht12 := htk.1
    have q1 : (c.whole t == 0) = true := by simp [ha]
    by_cases hr : rising (hasB (numbers t.length)) lo = 0
    · have q2 : (rising (hasB (numbers t.length)) lo == 0) = true := by simp [hr]
      by_cases h3 : lo.length ≤ 3
      · have q3 : (rising (hasB (numbers t.length)) lo != 0) = false := by simp [hr]
        have Hr := Lib.hid (keep_0 (keepErr_0 ha hr h3))
        clear ha hr ho htk
        rw [Hr.out]
        go_enter Tryz.func26, Tryz.ntmps26
        go_wp2_with (first | (((with_reducible refine q_alloc (d := some 6) ti39 ?_); intro W6 g6 hE6 hB6 hg6; have hg60 : w.heap.size ≤ g6 := Nat.le_trans hE.size hg6; replace hE := hE.trans hE6; replace hF := hF.ext hE6; replace hM := hM.ext hE6; replace hT := hT.ext hE6; replace hL := hL.ext hE6; replace hB3 := hB3.ext hE6; replace hb3_0 := Ext.cell_some hE6 hb3_0; replace hb3_1 := Ext.cell_some hE6 hb3_1; replace hb3_2 := Ext.cell_some hE6 hb3_2)) | (go_at_call 62; ((with_reducible refine (RWhole_any _ _ c t _ (by exact CodeV.of hF hM HW.out) (by exact hT)).mono ?_); rintro e Wc1 ⟨rfl, hEc1⟩; (try replace hEc1 := Ext.undrew hEc1); (try replace hE := hE.trans hEc1); (try replace hF := hF.ext hEc1); (try replace hM := hM.ext hEc1); (try replace hT := hT.ext hEc1); (try replace hL := hL.ext hEc1); (try replace hB6 := hB6.ext hEc1); (try replace hB3 := hB3.ext hEc1); (try replace hb3_0 := Ext.cell_some hEc1 hb3_0); (try replace hb3_1 := Ext.cell_some hEc1 hb3_1); (try replace hb3_2 := Ext.cell_some hEc1 hb3_2))) | (go_at_call 67; ((with_reducible refine (numbers_any t.length _ (by omega)).mono ?_); rintro e Wc2 ⟨v67, rfl, hO67, hEc2⟩; (try replace hEc2 := Ext.undrew hEc2); (try replace hE := hE.trans hEc2); (try replace hF := hF.ext hEc2); (try replace hM := hM.ext hEc2); (try replace hT := hT.ext hEc2); (try replace hL := hL.ext hEc2); (try replace hB6 := hB6.ext hEc2); (try replace hB3 := hB3.ext hEc2); (try replace hb3_0 := Ext.cell_some hEc2 hb3_0); (try replace hb3_1 := Ext.cell_some hEc2 hb3_1); (try replace hb3_2 := Ext.cell_some hEc2 hb3_2))) | (go_at_call 71; ((with_reducible refine (Rrising_any _ _ lo (numbers t.length) _ (by exact hL) (by exact hO67.ints)).mono ?_); rintro e WcR ⟨rfl, hEcR⟩; (try replace hEcR := Ext.undrew hEcR); (try replace hE := hE.trans hEcR); (try replace hF := hF.ext hEcR); (try replace hM := hM.ext hEcR); (try replace hT := hT.ext hEcR); (try replace hL := hL.ext hEcR); (try replace hB6 := hB6.ext hEcR); (try replace hB3 := hB3.ext hEcR); (try replace hb3_0 := Ext.cell_some hEcR hb3_0); (try replace hb3_1 := Ext.cell_some hEcR hb3_1); (try replace hb3_2 := Ext.cell_some hEcR hb3_2))) | (((with_reducible refine q_newvar (e := 39) (u := 9) (v := .agg #[.int .i64 (t.length : Int), .slice none 0 0]) ti39 ?_ ?_ ?_ ?_ ?_ ?_); (intro g; rfl); (intro g; rfl); rfl; rfl; (simp [Value.cells, Value.oneCell']); intro W9 g9 hE9 hB9 hg9; simp [Value.cells] at hB9)) | ((with_reducible refine q_box (d := some 3) ?_); intro W3 g3 hE3 hB3 hg3; simp [Act.eval, Act.put, Value.cells] at hB3; (try replace hE := hE.trans hE3); (try replace hF := hF.ext hE3); (try replace hM := hM.ext hE3); (try replace hT := hT.ext hE3); (try replace hL := hL.ext hE3); (try replace hB6 := hB6.ext hE3); (try replace hB3 := hB3.ext hE3); (try replace hb3_0 := Ext.cell_some hE3 hb3_0); (try replace hb3_1 := Ext.cell_some hE3 hb3_1); (try replace hb3_2 := Ext.cell_some hE3 hb3_2); have hb3_0 := hB3.cell 0; have hb3_1 := hB3.cell 1; have hb3_2 := hB3.cell 2; simp at hb3_0 hb3_1 hb3_2; clear hE3))
        obtain ⟨W8, hW8⟩ : ∃ W, W = WcR := ⟨_, rfl⟩
        subst hW8
        have kf0 := hb3_0; have kf1 := hb3_1; have kf2 := hb3_2
        go_loopw [10] (fun i wr => Ext W8 wr ∧ ∃ k : Nat, ∃ kv : Value, k ≤ t.length ∧ i = .int .i64 k ∧ Blk wr g9 39 #[.int .i64 (t.length : Int), kv] ∧ OwnL W8.heap.size wr kv (keptTo c t lo k)) (fun i _ => t.length - (intOf i).toNat)
        case atStart => exact ⟨hE9, 0, _, by omega, rfl, hB9, OwnL.nil _ _⟩
        case round =>
          obtain ⟨hEr, k, kv, hk, rfl, hB9r, hO⟩ := hrel
          have kF := hF.ext hEr; have kM := hM.ext hEr; have kT := hT.ext hEr; have kL := hL.ext hEr
          have d0 := Ext.cell_some hEr hb3_0; have d1 := Ext.cell_some hEr hb3_1; have d2 := Ext.cell_some hEr hb3_2
          have e90 := hB9r.cell 0
          have e91 := hB9r.cell 1
          simp at e90 e91
          have Hkl := Lib.hid (keptTo_len c t lo k)
          clear hb3_0 hb3_1 hb3_2 hB9 hE9
          by_cases hlt : k < t.length
          · obtain ⟨ad, rfl, hct⟩ := t4 (by omega)
            have eT0 := (hct.ext hE).i hlt
            have eT := Ext.cell_some hEr eT0
            have z2 : IntKind.i64.wrap ((k : Int) + 1) = (k : Int) + 1 := IntWalk.i64_in _ (by omega)
            have Htk2 := Lib.hid (Htk.out.take (k + 1))
            obtain ⟨Ak, ck, rfl, _, _, _⟩ := hO.lines
            clear t4 hct
            cases hb : hasB lo ((k : Int) + 1) with
            | true =>
              have Hs := Lib.hid (keptTo_yes (c := c) (t := t) hb)
              go_wp2_with (go_at_call 49; refine (Has_any _ _ _ _ kL).mono ?_; rintro e w' ⟨rfl, rfl⟩)
              go_roundw
              case rel => exact ⟨hEr, k + 1, _, by omega, by go_num, hB9r, by rw [Hs.out]; exact hO⟩
              case measure => simp [intOf]; omega
            | false =>
              have Hs := Lib.hid (keptTo_no (c := c) hlt hb)
              have hZ := Ext.todrew (Ext.refl wr)
              have f7 := Ext.cell_some hZ e91
              have hcut := Lib.hid (kT.cut (n := k + 1) (by omega))
              have z3 : (0 : Int) ≤ (k : Int) + 1 := by omega
              have z4 : ((k : Int) + 1).toNat = k + 1 := by omega
              have z5 : (k : Int) + 1 ≤ (t.length : Int) := by omega
              have z6 : (k : Int) + 1 ≤ (ct : Int) := by omega
              go_wp2_with (go_at_call 49; refine (Has_any _ _ _ _ kL).mono ?_; rintro e w' ⟨rfl, rfl⟩)
              refine wp_region_tree (.take 0 (.take 2 (.take 3 (.take 4 (.take 5 (.take 6 (.take 7 (.take 8 (.take 9 (.take 10 (.take 11 (.take 12 (.two 1 (.one 13 (.take 14 (.one 15 (.one 16 (.take 17 (.one 18 .nil)))))) 13 (.take 14 (.two 1 (.one 15 (.one 16 (.take 17 (.one 18 .nil)))) 15 (.one 1 (.one 16 (.take 17 (.one 18 .nil))))))))))))))))))) (fun w' => w'.cell? ⟨g9, 0, none⟩ = some (.int .i64 (t.length : Int)) ∧ w'.cell? (ad.add k) = some (.int .i64 t[k]) ∧ w'.cell? ⟨g3, 0, none⟩ = some fv ∧ w'.cell? ⟨g3, 1, none⟩ = some mv ∧ w'.cell? ⟨g3, 2, none⟩ = some (.int .i64 c.all)) (by kernel_rfl) (by kernel_rfl) (by kernel_rfl) (by kernel_rfl) (fun _ _ _ _ _ h => h) ?_ (fun hHeld => ?_)
              · (first | exact True.intro | ((try dsimp only); (repeat' apply And.intro) <;> first | assumption | (refine Ext.cell_some (Ext.todrew (Ext.refl _)) ?_; assumption)))
              refine t_take (i := 0) (v := ?_) (by (simp only [List.getElem?_toArray, List.getElem?_cons_succ, List.getElem?_cons_zero]); rfl) (by rfl) ?_ (by exact hHeld) ?_
              rotate_left
              · (intro wq hSw; (try dsimp only at hSw); go_simp; (try with_reducible rfl))
              (try simp only [Act.put, List.setIfInBounds_toArray, List.set_cons_zero, List.set_cons_succ])
              refine t_take (i := 2) (v := ?_) (by (simp only [List.getElem?_toArray, List.getElem?_cons_succ, List.getElem?_cons_zero]); rfl) (by rfl) ?_ (by exact hHeld) ?_
              rotate_left
              · (intro wq hSw; (try dsimp only at hSw); go_simp; (try with_reducible rfl))
              (try simp only [Act.put, List.setIfInBounds_toArray, List.set_cons_zero, List.set_cons_succ])
              refine t_take (i := 3) (v := ?_) (by (simp only [List.getElem?_toArray, List.getElem?_cons_succ, List.getElem?_cons_zero]); rfl) (by rfl) ?_ (by exact hHeld) ?_
              rotate_left
              · (intro wq hSw; (try dsimp only at hSw); go_simp; (try with_reducible rfl))
              (try simp only [Act.put, List.setIfInBounds_toArray, List.set_cons_zero, List.set_cons_succ])
              refine t_take (i := 4) (v := ?_) (by (simp only [List.getElem?_toArray, List.getElem?_cons_succ, List.getElem?_cons_zero]); rfl) (by rfl) ?_ (by exact hHeld) ?_
              rotate_left
              · (intro wq hSw; (try dsimp only at hSw); go_simp; (try with_reducible rfl))
              (try simp only [Act.put, List.setIfInBounds_toArray, List.set_cons_zero, List.set_cons_succ])
              refine t_take (i := 5) (v := ?_) (by (simp only [List.getElem?_toArray, List.getElem?_cons_succ, List.getElem?_cons_zero]); rfl) (by rfl) ?_ (by exact hHeld) ?_
              rotate_left
              · (intro wq hSw; (try dsimp only at hSw); go_simp; (try with_reducible rfl))
              (try simp only [Act.put, List.setIfInBounds_toArray, List.set_cons_zero, List.set_cons_succ])
              refine t_take (i := 6) (v := ?_) (by (simp only [List.getElem?_toArray, List.getElem?_cons_succ, List.getElem?_cons_zero]); rfl) (by rfl) ?_ (by exact hHeld) ?_
              rotate_left
              · (intro wq hSw; (try dsimp only at hSw); go_simp; (try with_reducible rfl))
              (try simp only [Act.put, List.setIfInBounds_toArray, List.set_cons_zero, List.set_cons_succ])
              refine t_take (i := 7) (v := ?_) (by (simp only [List.getElem?_toArray, List.getElem?_cons_succ, List.getElem?_cons_zero]); rfl) (by rfl) ?_ (by exact hHeld) ?_
              rotate_left
              · (intro wq hSw; (try dsimp only at hSw); go_simp; (try with_reducible rfl))
              (try simp only [Act.put, List.setIfInBounds_toArray, List.set_cons_zero, List.set_cons_succ])
              refine t_take (i := 8) (v := ?_) (by (simp only [List.getElem?_toArray, List.getElem?_cons_succ, List.getElem?_cons_zero]); rfl) (by rfl) ?_ (by exact hHeld) ?_
              rotate_left
              · (intro wq hSw; (try dsimp only at hSw); go_simp; (try with_reducible rfl))
              (try simp only [Act.put, List.setIfInBounds_toArray, List.set_cons_zero, List.set_cons_succ])
              refine t_take (i := 9) (v := ?_) (by (simp only [List.getElem?_toArray, List.getElem?_cons_succ, List.getElem?_cons_zero]); rfl) (by rfl) ?_ (by exact hHeld) ?_
              rotate_left
              · (intro wq hSw; (try dsimp only at hSw); go_simp; (try with_reducible rfl))
              (try simp only [Act.put, List.setIfInBounds_toArray, List.set_cons_zero, List.set_cons_succ])
              refine t_take (i := 10) (v := ?_) (by (simp only [List.getElem?_toArray, List.getElem?_cons_succ, List.getElem?_cons_zero]); rfl) (by rfl) ?_ (by exact hHeld) ?_
              rotate_left
              · (intro wq hSw; (try dsimp only at hSw); go_simp; (try with_reducible rfl))
              (try simp only [Act.put, List.setIfInBounds_toArray, List.set_cons_zero, List.set_cons_succ])
              refine t_take (i := 11) (v := ?_) (by (simp only [List.getElem?_toArray, List.getElem?_cons_succ, List.getElem?_cons_zero]); rfl) (by rfl) ?_ (by exact hHeld) ?_
              rotate_left
              · (intro wq hSw; (try dsimp only at hSw); go_simp; (try with_reducible rfl))
              (try simp only [Act.put, List.setIfInBounds_toArray, List.set_cons_zero, List.set_cons_succ])
              refine t_take (i := 12) (v := ?_) (by (simp only [List.getElem?_toArray, List.getElem?_cons_succ, List.getElem?_cons_zero]); rfl) (by rfl) ?_ (by exact hHeld) ?_
              rotate_left
              · (intro wq hSw; (try dsimp only at hSw); go_simp; (try with_reducible rfl))
              (try simp only [Act.put, List.setIfInBounds_toArray, List.set_cons_zero, List.set_cons_succ])
              refine t_two (i := 1) (j := 13) (by (simp only [List.getElem?_toArray, List.getElem?_cons_succ, List.getElem?_cons_zero]); rfl) (by (simp only [List.getElem?_toArray, List.getElem?_cons_succ, List.getElem?_cons_zero]); rfl) ?_ ?_
              · (((with_reducible refine q_load (d := some 47) (p := ⟨g9, 1, none⟩) (v := .slice Ak (keptTo c t lo k).length ck) ?_ ?_ ?_); rfl; exact load_one Tryz.underlying37 rfl f7))
                clear hHeld; refine t_next ?_ (fun hHeld => ?_)
                · (first | exact True.intro | ((try dsimp only); (repeat' apply And.intro) <;> first | assumption | (refine Ext.cell_some (Ext.todrew (Ext.refl _)) ?_; assumption)))
                (try simp only [Act.put, List.setIfInBounds_toArray, List.set_cons_zero, List.set_cons_succ])
                refine t_one (i := 13) (by (simp only [List.getElem?_toArray, List.getElem?_cons_succ, List.getElem?_cons_zero]); rfl) ?_
                ((refine q_call (by rfl) (Total_ok _ _ c (t.take (k + 1)) _ (CodeV.of (kF.ext hZ) (kM.ext hZ) HW.out) (hcut.out.ext hZ) Ho.out Htk2.out) (by go_simp) ?_; rintro e W59 ⟨rfl, hE59⟩; refine ⟨_, rfl, ?_⟩; replace hZ := hZ.trans hE59; have f1 := Ext.cell_some hZ e90; have f2 := Ext.cell_some hZ eT; have f3 := Ext.cell_some hZ d0; have f4 := Ext.cell_some hZ d1; have f5 := Ext.cell_some hZ d2; have f7 := Ext.cell_some hZ e91))
                clear hHeld; refine t_next ?_ (fun hHeld => ?_)
                · (first | exact True.intro | ((try dsimp only); (repeat' apply And.intro) <;> first | assumption | (refine Ext.cell_some (Ext.todrew (Ext.refl _)) ?_; assumption)))
                (try simp only [Act.put, List.setIfInBounds_toArray, List.set_cons_zero, List.set_cons_succ])
                refine t_take (i := 14) (v := ?_) (by (simp only [List.getElem?_toArray, List.getElem?_cons_succ, List.getElem?_cons_zero]); rfl) (by rfl) ?_ (by exact hHeld) ?_
                rotate_left
                · (intro wq hSw; (try dsimp only at hSw); go_simp; (try with_reducible rfl))
                (try simp only [Act.put, List.setIfInBounds_toArray, List.set_cons_zero, List.set_cons_succ])
                refine t_one (i := 15) (by (simp only [List.getElem?_toArray, List.getElem?_cons_succ, List.getElem?_cons_zero]); rfl) ?_
                (((with_reducible refine q_bsL (d := some 61) (p := (k : Int) + 1) (q := t[k]) (r := c.total (t.take (k + 1))) ?_ ?_); rfl; intro W61 g61 hE61 hB61 hg61; replace hZ := hZ.trans hE61; have f1 := Ext.cell_some hZ e90; have f2 := Ext.cell_some hZ eT; have f3 := Ext.cell_some hZ d0; have f4 := Ext.cell_some hZ d1; have f5 := Ext.cell_some hZ d2; have f7 := Ext.cell_some hZ e91))
                clear hHeld; refine t_next ?_ (fun hHeld => ?_)
                · (first | exact True.intro | ((try dsimp only); (repeat' apply And.intro) <;> first | assumption | (refine Ext.cell_some (Ext.todrew (Ext.refl _)) ?_; assumption)))
                (try simp only [Act.put, List.setIfInBounds_toArray, List.set_cons_zero, List.set_cons_succ])
                refine t_one (i := 16) (by (simp only [List.getElem?_toArray, List.getElem?_cons_succ, List.getElem?_cons_zero]); rfl) ?_
                ((refine q_appL (d := some 62) (y := ⟨(k : Int) + 1, t[k], c.total (t.take (k + 1))⟩) rfl (hO.ext hZ) rfl hB61 (by have := Hkl.out; omega) (by have := hEr.size; have := hZ.size; omega) ?_; intro v62 W62 hO62 hm62 hgr62; have hEu := hm62 _ (hEr.trans hZ); have hB9u := (hB9r.ext hZ).grown hgr62 (Blk.notown (hB9r.ext hZ) (hO.ext hZ) (.inl (by decide))); have f1 := hB9u.cell 0; simp at f1; have f2 := Ext.cell_some hEu eT0; have f3 := Ext.cell_some hEu kf0; have f4 := Ext.cell_some hEu kf1; have f5 := Ext.cell_some hEu kf2; obtain ⟨A62, c62, e62, _, _, _⟩ := hO62.lines; rw [List.length_append, List.length_singleton] at e62; subst e62))
                clear hHeld; refine t_next ?_ (fun hHeld => ?_)
                · (first | exact True.intro | ((try dsimp only); (repeat' apply And.intro) <;> first | assumption | (refine Ext.cell_some (Ext.todrew (Ext.refl _)) ?_; assumption)))
                (try simp only [Act.put, List.setIfInBounds_toArray, List.set_cons_zero, List.set_cons_succ])
                refine t_take (i := 17) (v := ?_) (by (simp only [List.getElem?_toArray, List.getElem?_cons_succ, List.getElem?_cons_zero]); rfl) (by rfl) ?_ (by exact hHeld) ?_
                rotate_left
                · (intro wq hSw; (try dsimp only at hSw); go_simp; (try with_reducible rfl))
                (try simp only [Act.put, List.setIfInBounds_toArray, List.set_cons_zero, List.set_cons_succ])
                refine t_one (i := 18) (by (simp only [List.getElem?_toArray, List.getElem?_cons_succ, List.getElem?_cons_zero]); rfl) ?_
                (((with_reducible refine q_store1 (t := 37) (e := 39) (g := g9) (off := 1) (v := .slice A62 ((keptTo c t lo k).length + 1) c62) ?_ ?_ hB9u size37 ?_ ?_ ?_ ?_); rfl; rfl; rfl; simp; rfl; intro Ws hBs hgrs; simp at hBs; have hEv := below_grown hEu hgrs hg9 hEu.size; have hOv := own_grown hO62 hgrs (own_ne hO62 hB9u (.inl (by decide))); have f1 := hBs.cell 0; simp at f1; have f2 := Ext.cell_some hEv eT0; have f3 := Ext.cell_some hEv kf0; have f4 := Ext.cell_some hEv kf1; have f5 := Ext.cell_some hEv kf2))
                clear hHeld; refine t_next ?_ (fun hHeld => ?_)
                · (first | exact True.intro | ((try dsimp only); (repeat' apply And.intro) <;> first | assumption | (refine Ext.cell_some (Ext.todrew (Ext.refl _)) ?_; assumption)))
                (try simp only [Act.put, List.setIfInBounds_toArray, List.set_cons_zero, List.set_cons_succ])
                refine t_done ?_
                (go_wp2; go_roundw; (case rel => exact ⟨hEv, k + 1, _, by omega, by go_num, by simpa using hBs, by rw [Hs.out]; exact hOv⟩); (case measure => simp [intOf]; omega))
              · ((refine q_call (by rfl) (Total_ok _ _ c (t.take (k + 1)) _ (CodeV.of (kF.ext hZ) (kM.ext hZ) HW.out) (hcut.out.ext hZ) Ho.out Htk2.out) (by go_simp) ?_; rintro e W59 ⟨rfl, hE59⟩; refine ⟨_, rfl, ?_⟩; replace hZ := hZ.trans hE59; have f1 := Ext.cell_some hZ e90; have f2 := Ext.cell_some hZ eT; have f3 := Ext.cell_some hZ d0; have f4 := Ext.cell_some hZ d1; have f5 := Ext.cell_some hZ d2; have f7 := Ext.cell_some hZ e91))
                clear hHeld; refine t_next ?_ (fun hHeld => ?_)
                · (first | exact True.intro | ((try dsimp only); (repeat' apply And.intro) <;> first | assumption | (refine Ext.cell_some (Ext.todrew (Ext.refl _)) ?_; assumption)))
                (try simp only [Act.put, List.setIfInBounds_toArray, List.set_cons_zero, List.set_cons_succ])
                refine t_take (i := 14) (v := ?_) (by (simp only [List.getElem?_toArray, List.getElem?_cons_succ, List.getElem?_cons_zero]); rfl) (by rfl) ?_ (by exact hHeld) ?_
                rotate_left
                · (intro wq hSw; (try dsimp only at hSw); go_simp; (try with_reducible rfl))
                (try simp only [Act.put, List.setIfInBounds_toArray, List.set_cons_zero, List.set_cons_succ])
                refine t_two (i := 1) (j := 15) (by (simp only [List.getElem?_toArray, List.getElem?_cons_succ, List.getElem?_cons_zero]); rfl) (by (simp only [List.getElem?_toArray, List.getElem?_cons_succ, List.getElem?_cons_zero]); rfl) ?_ ?_
                · (((with_reducible refine q_load (d := some 47) (p := ⟨g9, 1, none⟩) (v := .slice Ak (keptTo c t lo k).length ck) ?_ ?_ ?_); rfl; exact load_one Tryz.underlying37 rfl f7))
                  clear hHeld; refine t_next ?_ (fun hHeld => ?_)
                  · (first | exact True.intro | ((try dsimp only); (repeat' apply And.intro) <;> first | assumption | (refine Ext.cell_some (Ext.todrew (Ext.refl _)) ?_; assumption)))
                  (try simp only [Act.put, List.setIfInBounds_toArray, List.set_cons_zero, List.set_cons_succ])
                  refine t_one (i := 15) (by (simp only [List.getElem?_toArray, List.getElem?_cons_succ, List.getElem?_cons_zero]); rfl) ?_
                  (((with_reducible refine q_bsL (d := some 61) (p := (k : Int) + 1) (q := t[k]) (r := c.total (t.take (k + 1))) ?_ ?_); rfl; intro W61 g61 hE61 hB61 hg61; replace hZ := hZ.trans hE61; have f1 := Ext.cell_some hZ e90; have f2 := Ext.cell_some hZ eT; have f3 := Ext.cell_some hZ d0; have f4 := Ext.cell_some hZ d1; have f5 := Ext.cell_some hZ d2; have f7 := Ext.cell_some hZ e91))
                  clear hHeld; refine t_next ?_ (fun hHeld => ?_)
                  · (first | exact True.intro | ((try dsimp only); (repeat' apply And.intro) <;> first | assumption | (refine Ext.cell_some (Ext.todrew (Ext.refl _)) ?_; assumption)))
                  (try simp only [Act.put, List.setIfInBounds_toArray, List.set_cons_zero, List.set_cons_succ])
                  refine t_one (i := 16) (by (simp only [List.getElem?_toArray, List.getElem?_cons_succ, List.getElem?_cons_zero]); rfl) ?_
                  ((refine q_appL (d := some 62) (y := ⟨(k : Int) + 1, t[k], c.total (t.take (k + 1))⟩) rfl (hO.ext hZ) rfl hB61 (by have := Hkl.out; omega) (by have := hEr.size; have := hZ.size; omega) ?_; intro v62 W62 hO62 hm62 hgr62; have hEu := hm62 _ (hEr.trans hZ); have hB9u := (hB9r.ext hZ).grown hgr62 (Blk.notown (hB9r.ext hZ) (hO.ext hZ) (.inl (by decide))); have f1 := hB9u.cell 0; simp at f1; have f2 := Ext.cell_some hEu eT0; have f3 := Ext.cell_some hEu kf0; have f4 := Ext.cell_some hEu kf1; have f5 := Ext.cell_some hEu kf2; obtain ⟨A62, c62, e62, _, _, _⟩ := hO62.lines; rw [List.length_append, List.length_singleton] at e62; subst e62))
                  clear hHeld; refine t_next ?_ (fun hHeld => ?_)
                  · (first | exact True.intro | ((try dsimp only); (repeat' apply And.intro) <;> first | assumption | (refine Ext.cell_some (Ext.todrew (Ext.refl _)) ?_; assumption)))
                  (try simp only [Act.put, List.setIfInBounds_toArray, List.set_cons_zero, List.set_cons_succ])
                  refine t_take (i := 17) (v := ?_) (by (simp only [List.getElem?_toArray, List.getElem?_cons_succ, List.getElem?_cons_zero]); rfl) (by rfl) ?_ (by exact hHeld) ?_
                  rotate_left
                  · (intro wq hSw; (try dsimp only at hSw); go_simp; (try with_reducible rfl))
                  (try simp only [Act.put, List.setIfInBounds_toArray, List.set_cons_zero, List.set_cons_succ])
                  refine t_one (i := 18) (by (simp only [List.getElem?_toArray, List.getElem?_cons_succ, List.getElem?_cons_zero]); rfl) ?_
                  (((with_reducible refine q_store1 (t := 37) (e := 39) (g := g9) (off := 1) (v := .slice A62 ((keptTo c t lo k).length + 1) c62) ?_ ?_ hB9u size37 ?_ ?_ ?_ ?_); rfl; rfl; rfl; simp; rfl; intro Ws hBs hgrs; simp at hBs; have hEv := below_grown hEu hgrs hg9 hEu.size; have hOv := own_grown hO62 hgrs (own_ne hO62 hB9u (.inl (by decide))); have f1 := hBs.cell 0; simp at f1; have f2 := Ext.cell_some hEv eT0; have f3 := Ext.cell_some hEv kf0; have f4 := Ext.cell_some hEv kf1; have f5 := Ext.cell_some hEv kf2))
                  clear hHeld; refine t_next ?_ (fun hHeld => ?_)
                  · (first | exact True.intro | ((try dsimp only); (repeat' apply And.intro) <;> first | assumption | (refine Ext.cell_some (Ext.todrew (Ext.refl _)) ?_; assumption)))
                  (try simp only [Act.put, List.setIfInBounds_toArray, List.set_cons_zero, List.set_cons_succ])
                  refine t_done ?_
                  (go_wp2; go_roundw; (case rel => exact ⟨hEv, k + 1, _, by omega, by go_num, by simpa using hBs, by rw [Hs.out]; exact hOv⟩); (case measure => simp [intOf]; omega))
                · (((with_reducible refine q_bsL (d := some 61) (p := (k : Int) + 1) (q := t[k]) (r := c.total (t.take (k + 1))) ?_ ?_); rfl; intro W61 g61 hE61 hB61 hg61; replace hZ := hZ.trans hE61; have f1 := Ext.cell_some hZ e90; have f2 := Ext.cell_some hZ eT; have f3 := Ext.cell_some hZ d0; have f4 := Ext.cell_some hZ d1; have f5 := Ext.cell_some hZ d2; have f7 := Ext.cell_some hZ e91))
                  clear hHeld; refine t_next ?_ (fun hHeld => ?_)
                  · (first | exact True.intro | ((try dsimp only); (repeat' apply And.intro) <;> first | assumption | (refine Ext.cell_some (Ext.todrew (Ext.refl _)) ?_; assumption)))
                  (try simp only [Act.put, List.setIfInBounds_toArray, List.set_cons_zero, List.set_cons_succ])
                  refine t_one (i := 1) (by (simp only [List.getElem?_toArray, List.getElem?_cons_succ, List.getElem?_cons_zero]); rfl) ?_
                  (((with_reducible refine q_load (d := some 47) (p := ⟨g9, 1, none⟩) (v := .slice Ak (keptTo c t lo k).length ck) ?_ ?_ ?_); rfl; exact load_one Tryz.underlying37 rfl f7))
                  clear hHeld; refine t_next ?_ (fun hHeld => ?_)
                  · (first | exact True.intro | ((try dsimp only); (repeat' apply And.intro) <;> first | assumption | (refine Ext.cell_some (Ext.todrew (Ext.refl _)) ?_; assumption)))
                  (try simp only [Act.put, List.setIfInBounds_toArray, List.set_cons_zero, List.set_cons_succ])
                  refine t_one (i := 16) (by (simp only [List.getElem?_toArray, List.getElem?_cons_succ, List.getElem?_cons_zero]); rfl) ?_
                  ((refine q_appL (d := some 62) (y := ⟨(k : Int) + 1, t[k], c.total (t.take (k + 1))⟩) rfl (hO.ext hZ) rfl hB61 (by have := Hkl.out; omega) (by have := hEr.size; have := hZ.size; omega) ?_; intro v62 W62 hO62 hm62 hgr62; have hEu := hm62 _ (hEr.trans hZ); have hB9u := (hB9r.ext hZ).grown hgr62 (Blk.notown (hB9r.ext hZ) (hO.ext hZ) (.inl (by decide))); have f1 := hB9u.cell 0; simp at f1; have f2 := Ext.cell_some hEu eT0; have f3 := Ext.cell_some hEu kf0; have f4 := Ext.cell_some hEu kf1; have f5 := Ext.cell_some hEu kf2; obtain ⟨A62, c62, e62, _, _, _⟩ := hO62.lines; rw [List.length_append, List.length_singleton] at e62; subst e62))
                  clear hHeld; refine t_next ?_ (fun hHeld => ?_)
                  · (first | exact True.intro | ((try dsimp only); (repeat' apply And.intro) <;> first | assumption | (refine Ext.cell_some (Ext.todrew (Ext.refl _)) ?_; assumption)))
                  (try simp only [Act.put, List.setIfInBounds_toArray, List.set_cons_zero, List.set_cons_succ])
                  refine t_take (i := 17) (v := ?_) (by (simp only [List.getElem?_toArray, List.getElem?_cons_succ, List.getElem?_cons_zero]); rfl) (by rfl) ?_ (by exact hHeld) ?_
                  rotate_left
                  · (intro wq hSw; (try dsimp only at hSw); go_simp; (try with_reducible rfl))
                  (try simp only [Act.put, List.setIfInBounds_toArray, List.set_cons_zero, List.set_cons_succ])
                  refine t_one (i := 18) (by (simp only [List.getElem?_toArray, List.getElem?_cons_succ, List.getElem?_cons_zero]); rfl) ?_
                  (((with_reducible refine q_store1 (t := 37) (e := 39) (g := g9) (off := 1) (v := .slice A62 ((keptTo c t lo k).length + 1) c62) ?_ ?_ hB9u size37 ?_ ?_ ?_ ?_); rfl; rfl; rfl; simp; rfl; intro Ws hBs hgrs; simp at hBs; have hEv := below_grown hEu hgrs hg9 hEu.size; have hOv := own_grown hO62 hgrs (own_ne hO62 hB9u (.inl (by decide))); have f1 := hBs.cell 0; simp at f1; have f2 := Ext.cell_some hEv eT0; have f3 := Ext.cell_some hEv kf0; have f4 := Ext.cell_some hEv kf1; have f5 := Ext.cell_some hEv kf2))
                  clear hHeld; refine t_next ?_ (fun hHeld => ?_)
                  · (first | exact True.intro | ((try dsimp only); (repeat' apply And.intro) <;> first | assumption | (refine Ext.cell_some (Ext.todrew (Ext.refl _)) ?_; assumption)))
                  (try simp only [Act.put, List.setIfInBounds_toArray, List.set_cons_zero, List.set_cons_succ])
                  refine t_done ?_
                  (go_wp2; go_roundw; (case rel => exact ⟨hEv, k + 1, _, by omega, by go_num, by simpa using hBs, by rw [Hs.out]; exact hOv⟩); (case measure => simp [intOf]; omega))
          · obtain rfl : k = t.length := by omega
            clear t4
            have hB6r := hB6.ext hEr
            have hEw := hE.trans hEr
            have hne : g6 ≠ g9 := by have := hB6.lt; omega
            obtain ⟨Ak, ck, rfl, ka, kb, kc⟩ := hO.lines
            go_wp2_with (first | ((with_reducible refine q_load (d := some 64) (p := ⟨g9, 0, none⟩) (v := .agg #[.int .i64 (t.length : Int), .slice Ak (keptTo c t lo t.length).length ck]) ?_ ?_ ?_); rfl; exact ld_sheet hB9r) | ((with_reducible refine q_store (t := 39) (e := 39) (g := g6) (off := 0) (n := 2) (v := .agg #[.int .i64 (t.length : Int), .slice Ak (keptTo c t lo t.length).length ck]) ?_ ?_ hB6r size39 ?_ ?_ ?_ ?_); rfl; rfl; rfl; (simp [Value.cells]); (simp [Value.cells, Value.oneCell']); intro W60 hB60 hgr60; simp [putAt, Value.cells] at hB60; replace hEw := below_grown hEw hgr60 hg60 hEw.size; have hO60 := own_grown hO hgr60 (own_ne hO hB6r (.inl (by decide)))))
            refine ret_c2 rfl rfl rfl (ld_sheet hB60) ?_
            exact ⟨_, rfl, SheetV.of (s := ⟨t.length, keptTo c t lo t.length⟩) (OwnL.lines hO60), hEw⟩
      · have q3 : (3 : Int) < lo.length := by omega
        have q4 : ((3 : Int) != 0) = true := rfl
        have Hr := Lib.hid (keep_e (c := c) (t := t) (lo := lo) (by rw [keepErr_3 ha hr h3]; decide))
        rw [keepErr_3 ha hr h3] at Hr
        clear ha hr ho htk t4
        rw [Hr.out]
        go_enter Tryz.func26, Tryz.ntmps26
        go_wp2_with (first | (((with_reducible refine q_alloc (d := some 6) ti39 ?_); intro W6 g6 hE6 hB6 hg6; have hg60 : w.heap.size ≤ g6 := Nat.le_trans hE.size hg6; replace hE := hE.trans hE6; replace hF := hF.ext hE6; replace hM := hM.ext hE6; replace hT := hT.ext hE6; replace hL := hL.ext hE6; replace hB3 := hB3.ext hE6; replace hb3_0 := Ext.cell_some hE6 hb3_0; replace hb3_1 := Ext.cell_some hE6 hb3_1; replace hb3_2 := Ext.cell_some hE6 hb3_2)) | (go_at_call 62; ((with_reducible refine (RWhole_any _ _ c t _ (by exact CodeV.of hF hM HW.out) (by exact hT)).mono ?_); rintro e Wc4 ⟨rfl, hEc4⟩; (try replace hEc4 := Ext.undrew hEc4); (try replace hE := hE.trans hEc4); (try replace hF := hF.ext hEc4); (try replace hM := hM.ext hEc4); (try replace hT := hT.ext hEc4); (try replace hL := hL.ext hEc4); (try replace hB6 := hB6.ext hEc4); (try replace hB3 := hB3.ext hEc4); (try replace hb3_0 := Ext.cell_some hEc4 hb3_0); (try replace hb3_1 := Ext.cell_some hEc4 hb3_1); (try replace hb3_2 := Ext.cell_some hEc4 hb3_2))) | (go_at_call 67; ((with_reducible refine (numbers_any t.length _ (by omega)).mono ?_); rintro e Wc5 ⟨v67, rfl, hO67, hEc5⟩; (try replace hEc5 := Ext.undrew hEc5); (try replace hE := hE.trans hEc5); (try replace hF := hF.ext hEc5); (try replace hM := hM.ext hEc5); (try replace hT := hT.ext hEc5); (try replace hL := hL.ext hEc5); (try replace hB6 := hB6.ext hEc5); (try replace hB3 := hB3.ext hEc5); (try replace hb3_0 := Ext.cell_some hEc5 hb3_0); (try replace hb3_1 := Ext.cell_some hEc5 hb3_1); (try replace hb3_2 := Ext.cell_some hEc5 hb3_2))) | (go_at_call 71; ((with_reducible refine (Rrising_any _ _ lo (numbers t.length) _ (by exact hL) (by exact hO67.ints)).mono ?_); rintro e WcR ⟨rfl, hEcR⟩; (try replace hEcR := Ext.undrew hEcR); (try replace hE := hE.trans hEcR); (try replace hF := hF.ext hEcR); (try replace hM := hM.ext hEcR); (try replace hT := hT.ext hEcR); (try replace hL := hL.ext hEcR); (try replace hB6 := hB6.ext hEcR); (try replace hB3 := hB3.ext hEcR); (try replace hb3_0 := Ext.cell_some hEcR hb3_0); (try replace hb3_1 := Ext.cell_some hEcR hb3_1); (try replace hb3_2 := Ext.cell_some hEcR hb3_2))) | (((with_reducible refine q_store (t := 39) (e := 39) (g := g6) (off := 0) (n := 2) (v := .agg #[.int .i64 0, .slice none 0 0]) ?_ ?_ hB6 size39 ?_ ?_ ?_ ?_); rfl; rfl; rfl; (simp [Value.cells]); (simp [Value.cells, Value.oneCell']); intro W60 hB60 hgr60; simp [putAt, Value.cells] at hB60; replace hE := below_grown hE hgr60 hg60 hE.size)) | ((with_reducible refine q_box (d := some 3) ?_); intro W3 g3 hE3 hB3 hg3; simp [Act.eval, Act.put, Value.cells] at hB3; (try replace hE := hE.trans hE3); (try replace hF := hF.ext hE3); (try replace hM := hM.ext hE3); (try replace hT := hT.ext hE3); (try replace hL := hL.ext hE3); (try replace hB6 := hB6.ext hE3); (try replace hB3 := hB3.ext hE3); (try replace hb3_0 := Ext.cell_some hE3 hb3_0); (try replace hb3_1 := Ext.cell_some hE3 hb3_1); (try replace hb3_2 := Ext.cell_some hE3 hb3_2); have hb3_0 := hB3.cell 0; have hb3_1 := hB3.cell 1; have hb3_2 := hB3.cell 2; simp at hb3_0 hb3_1 hb3_2; clear hE3))
        refine ret_c2 rfl rfl rfl (ld_sheet hB60) ?_
        exact ⟨_, rfl, SheetV.of (s := ⟨0, []⟩) (Sl.none_ _ 3), hE⟩
    · have q2 : (rising (hasB (numbers t.length)) lo == 0) = false := by simp [hr]
      have q3 : (rising (hasB (numbers t.length)) lo != 0) = true := by simp [hr]
      have Hr := Lib.hid (keep_e (c := c) (t := t) (lo := lo) (by rw [keepErr_r ha hr]; exact hr))
      rw [keepErr_r ha hr] at Hr
      clear ha hr ho htk t4
      rw [Hr.out]
      go_enter Tryz.func26, Tryz.ntmps26
      go_wp2_with (first | (((with_reducible refine q_alloc (d := some 6) ti39 ?_); intro W6 g6 hE6 hB6 hg6; have hg60 : w.heap.size ≤ g6 := Nat.le_trans hE.size hg6; replace hE := hE.trans hE6; replace hF := hF.ext hE6; replace hM := hM.ext hE6; replace hT := hT.ext hE6; replace hL := hL.ext hE6; replace hB3 := hB3.ext hE6; replace hb3_0 := Ext.cell_some hE6 hb3_0; replace hb3_1 := Ext.cell_some hE6 hb3_1; replace hb3_2 := Ext.cell_some hE6 hb3_2)) | (go_at_call 62; ((with_reducible refine (RWhole_any _ _ c t _ (by exact CodeV.of hF hM HW.out) (by exact hT)).mono ?_); rintro e Wc7 ⟨rfl, hEc7⟩; (try replace hEc7 := Ext.undrew hEc7); (try replace hE := hE.trans hEc7); (try replace hF := hF.ext hEc7); (try replace hM := hM.ext hEc7); (try replace hT := hT.ext hEc7); (try replace hL := hL.ext hEc7); (try replace hB6 := hB6.ext hEc7); (try replace hB3 := hB3.ext hEc7); (try replace hb3_0 := Ext.cell_some hEc7 hb3_0); (try replace hb3_1 := Ext.cell_some hEc7 hb3_1); (try replace hb3_2 := Ext.cell_some hEc7 hb3_2))) | (go_at_call 67; ((with_reducible refine (numbers_any t.length _ (by omega)).mono ?_); rintro e Wc8 ⟨v67, rfl, hO67, hEc8⟩; (try replace hEc8 := Ext.undrew hEc8); (try replace hE := hE.trans hEc8); (try replace hF := hF.ext hEc8); (try replace hM := hM.ext hEc8); (try replace hT := hT.ext hEc8); (try replace hL := hL.ext hEc8); (try replace hB6 := hB6.ext hEc8); (try replace hB3 := hB3.ext hEc8); (try replace hb3_0 := Ext.cell_some hEc8 hb3_0); (try replace hb3_1 := Ext.cell_some hEc8 hb3_1); (try replace hb3_2 := Ext.cell_some hEc8 hb3_2))) | (go_at_call 71; ((with_reducible refine (Rrising_any _ _ lo (numbers t.length) _ (by exact hL) (by exact hO67.ints)).mono ?_); rintro e WcR ⟨rfl, hEcR⟩; (try replace hEcR := Ext.undrew hEcR); (try replace hE := hE.trans hEcR); (try replace hF := hF.ext hEcR); (try replace hM := hM.ext hEcR); (try replace hT := hT.ext hEcR); (try replace hL := hL.ext hEcR); (try replace hB6 := hB6.ext hEcR); (try replace hB3 := hB3.ext hEcR); (try replace hb3_0 := Ext.cell_some hEcR hb3_0); (try replace hb3_1 := Ext.cell_some hEcR hb3_1); (try replace hb3_2 := Ext.cell_some hEcR hb3_2))) | (((with_reducible refine q_store (t := 39) (e := 39) (g := g6) (off := 0) (n := 2) (v := .agg #[.int .i64 0, .slice none 0 0]) ?_ ?_ hB6 size39 ?_ ?_ ?_ ?_); rfl; rfl; rfl; (simp [Value.cells]); (simp [Value.cells, Value.oneCell']); intro W60 hB60 hgr60; simp [putAt, Value.cells] at hB60; replace hE := below_grown hE hgr60 hg60 hE.size)) | ((with_reducible refine q_box (d := some 3) ?_); intro W3 g3 hE3 hB3 hg3; simp [Act.eval, Act.put, Value.cells] at hB3; (try replace hE := hE.trans hE3); (try replace hF := hF.ext hE3); (try replace hM := hM.ext hE3); (try replace hT := hT.ext hE3); (try replace hL := hL.ext hE3); (try replace hB6 := hB6.ext hE3); (try replace hB3 := hB3.ext hE3); (try replace hb3_0 := Ext.cell_some hE3 hb3_0); (try replace hb3_1 := Ext.cell_some hE3 hb3_1); (try replace hb3_2 := Ext.cell_some hE3 hb3_2); have hb3_0 := hB3.cell 0; have hb3_1 := hB3.cell 1; have hb3_2 := hB3.cell 2; simp at hb3_0 hb3_1 hb3_2; clear hE3))
      refine ret_c2 rfl rfl rfl (ld_sheet hB60) ?_
      exact ⟨_, rfl, SheetV.of (s := ⟨0, []⟩) (Sl.none_ _ 3), hE⟩
  · have q1 : (c.whole t == 0) = false := by simp [ha]
    have q2 : (c.whole t != 0) = true := by simp [ha]
    have Hr := Lib.hid (keep_e (c := c) (t := t) (lo := lo) (by rw [keepErr_w ha]; exact ha))
    rw [keepErr_w ha] at Hr
    clear ha t4
    rw [Hr.out]
    go_enter Tryz.func26, Tryz.ntmps26
    go_wp2_with (first | (((with_reducible refine q_alloc (d := some 6) ti39 ?_); intro W6 g6 hE6 hB6 hg6; have hg60 : w.heap.size ≤ g6 := Nat.le_trans hE.size hg6; replace hE := hE.trans hE6; replace hF := hF.ext hE6; replace hM := hM.ext hE6; replace hT := hT.ext hE6; replace hL := hL.ext hE6; replace hB3 := hB3.ext hE6; replace hb3_0 := Ext.cell_some hE6 hb3_0; replace hb3_1 := Ext.cell_some hE6 hb3_1; replace hb3_2 := Ext.cell_some hE6 hb3_2)) | (go_at_call 62; ((with_reducible refine (RWhole_any _ _ c t _ (by exact CodeV.of hF hM HW.out) (by exact hT)).mono ?_); rintro e Wc10 ⟨rfl, hEc10⟩; (try replace hEc10 := Ext.undrew hEc10); (try replace hE := hE.trans hEc10); (try replace hF := hF.ext hEc10); (try replace hM := hM.ext hEc10); (try replace hT := hT.ext hEc10); (try replace hL := hL.ext hEc10); (try replace hB6 := hB6.ext hEc10); (try replace hB3 := hB3.ext hEc10); (try replace hb3_0 := Ext.cell_some hEc10 hb3_0); (try replace hb3_1 := Ext.cell_some hEc10 hb3_1); (try replace hb3_2 := Ext.cell_some hEc10 hb3_2))) | (((with_reducible refine q_store (t := 39) (e := 39) (g := g6) (off := 0) (n := 2) (v := .agg #[.int .i64 0, .slice none 0 0]) ?_ ?_ hB6 size39 ?_ ?_ ?_ ?_); rfl; rfl; rfl; (simp [Value.cells]); (simp [Value.cells, Value.oneCell']); intro W60 hB60 hgr60; simp [putAt, Value.cells] at hB60; replace hE := below_grown hE hgr60 hg60 hE.size)) | ((with_reducible refine q_box (d := some 3) ?_); intro W3 g3 hE3 hB3 hg3; simp [Act.eval, Act.put, Value.cells] at hB3; (try replace hE := hE.trans hE3); (try replace hF := hF.ext hE3); (try replace hM := hM.ext hE3); (try replace hT := hT.ext hE3); (try replace hL := hL.ext hE3); (try replace hB6 := hB6.ext hE3); (try replace hB3 := hB3.ext hE3); (try replace hb3_0 := Ext.cell_some hE3 hb3_0); (try replace hb3_1 := Ext.cell_some hE3 hb3_1); (try replace hb3_2 := Ext.cell_some hE3 hb3_2); have hb3_0 := hB3.cell 0; have hb3_1 := hB3.cell 1; have hb3_2 := hB3.cell 2; simp at hb3_0 hb3_1 hb3_2; clear hE3))
    refine ret_c2 rfl rfl rfl (ld_sheet hB60) ?_
    exact ⟨_, rfl, SheetV.of (s := ⟨0, []⟩) (Sl.none_ _ 3), hE⟩
end Go.Bp
end
section
/- Plain Lean: texts of sheets. -/
namespace Go.Bp
open Go.RowKit
/-- A string, by its bytes. -/
def S (l : List UInt8) : ByteArray := ⟨l.toArray⟩
theorem S_app (a b : List UInt8) : S a ++ S b = S (a ++ b) := by
  apply Go.WideShapes.bytes_inj
  simp [S]
theorem S_data (s : ByteArray) : S s.data.toList = s := Go.WideShapes.bytes_inj (by simp [S])
theorem S_list (l : List UInt8) : (S l).data.toList = l := by simp [S]
theorem S_size (l : List UInt8) : (S l).size = l.length := by simp [S, ByteArray.size]
theorem S_inj {a b : List UInt8} (h : S a = S b) : a = b := by have := congrArg (fun s => s.data.toList) h; simpa [S_list] using this
theorem S_get {l : List UInt8} {k : Nat} (_h : k < l.length) (h2 : k < (S l).size) : (S l)[k] = l[k] := by
  show (S l).data[k] = _
  unfold S; rfl
/-- The decimal form of a number that is not below 0, with fuel. -/
def digitsF : Nat → Nat → List UInt8
  | 0, _ => []
  | f + 1, n => (if 10 ≤ n then digitsF f (n / 10) else []) ++ [UInt8.ofNat (48 + n % 10)]
def digits (n : Nat) : List UInt8 := digitsF (n + 1) n
theorem digitsF_eq : ∀ (f n : Nat), n < f → ∀ g, n < g → digitsF f n = digitsF g n
  | 0, n, h, _, _ => by omega
  | f + 1, n, h, 0, hg => by omega
  | f + 1, n, h, g + 1, hg => by
    unfold digitsF
    by_cases h10 : 10 ≤ n
    · rw [if_pos h10, if_pos h10, digitsF_eq f (n / 10) (by omega) g (by omega)]
    · rw [if_neg h10, if_neg h10]
theorem digits_small {n : Nat} (h : n < 10) : digits n = [UInt8.ofNat (48 + n % 10)] := by
  unfold digits digitsF; rw [if_neg (by omega)]; rfl
theorem digits_big {n : Nat} (h : 10 ≤ n) : digits n = digits (n / 10) ++ [UInt8.ofNat (48 + n % 10)] := by
  unfold digits
  rw [digitsF, if_pos h, digitsF_eq n (n / 10) (by omega) (n / 10 + 1) (by omega)]
theorem digitsF_len : ∀ (f n : Nat), (digitsF f n).length ≤ f
  | 0, _ => by simp [digitsF]
  | f + 1, n => by
    unfold digitsF
    have := digitsF_len f (n / 10)
    rw [List.length_append]
    split <;> simp <;> omega
theorem digits_len (n : Nat) : (digits n).length ≤ n + 1 := digitsF_len _ _
def digB (n : Nat) : UInt8 := UInt8.ofNat (48 + n % 10)
theorem digB_nat (n : Nat) : ((digB n).toNat : Int) = 48 + (n : Int) % 10 := by
  unfold digB
  have : (UInt8.ofNat (48 + n % 10)).toNat = 48 + n % 10 := by simp; omega
  rw [this]; omega
end Go.Bp
namespace Go.Bp
open Go.RowKit
def nameAt (c : Code) (w : Int) : List UInt8 := (c.names.getD w.toNat ByteArray.empty).data.toList
def rowText (c : Code) (x : Line) : List UInt8 := digits x.no.toNat ++ [32] ++ nameAt c x.what ++ [32] ++ digits x.sum.toNat ++ [10]
def textTo (c : Code) (s : Sheet) (k : Nat) : List UInt8 := digits s.lines.toNat ++ [10] ++ (s.kept.take k).flatMap (rowText c)
def textOf (c : Code) (s : Sheet) : List UInt8 := digits s.lines.toNat ++ [10] ++ s.kept.flatMap (rowText c)
theorem textTo_succ (c : Code) (s : Sheet) {k : Nat} (hk : k < s.kept.length) : textTo c s (k + 1) = textTo c s k ++ rowText c s.kept[k] := by
  unfold textTo; rw [take_snoc _ hk, List.flatMap_append]; simp
theorem nameErr_name {l : List ByteArray} {i : Nat} (h : nameErr l i = 0) : isName (l.getD i ByteArray.empty) = true := by
  cases hb : isName (l.getD i ByteArray.empty) with
  | true => rfl
  | false => rw [nameErr_form hb] at h; cases h
theorem isName_size {s : ByteArray} (h : isName s = true) : 1 ≤ s.size ∧ s.size ≤ 16 := by
  unfold isName at h
  simp only [Bool.and_eq_true] at h
  have := inB_t.1 h.1.1; omega
theorem Code.Ok.nameSize {c : Code} (h : c.Ok) {i : Nat} (hi : i < c.things) : 1 ≤ (c.names.getD i ByteArray.empty).size ∧ (c.names.getD i ByteArray.empty).size ≤ 16 := isName_size (nameErr_name (h.name i hi))
theorem rowText_len {c : Code} {m : Int} {x : Line} (ho : c.Ok) (hm : m ≤ 12) (hx : LineOk c m x) : (rowText c x).length ≤ 300 := by
  unfold rowText nameAt
  have h1 := digits_len x.no.toNat
  have h2 := digits_len x.sum.toNat
  have h3 := (ho.nameSize (i := x.what.toNat) (by have := hx.what1; have := hx.what2; omega)).2
  have h4 := hx.no2; have h5 := hx.sum2
  simp only [List.length_append, List.length_singleton]
  have : (c.names.getD x.what.toNat ByteArray.empty).data.toList.length = (c.names.getD x.what.toNat ByteArray.empty).size := rfl
  omega
theorem textTo_len {c : Code} {s : Sheet} (ho : c.Ok) (hs : s.Ok c) : ∀ k, k ≤ s.kept.length → (textTo c s k).length ≤ 20 + 300 * k
  | 0, _ => by
    unfold textTo
    have := digits_len s.lines.toNat
    have := hs.l2
    simp; omega
  | k + 1, hk => by
    have hk' : k < s.kept.length := by omega
    have := textTo_len ho hs k (by omega)
    have := rowText_len ho hs.l2 (hs.line _ (List.getElem_mem hk'))
    rw [textTo_succ c s hk', List.length_append]; omega
theorem rises_len : ∀ (l : List Line) (prev : Option Int) (a m : Int), Rises prev l → (∀ x ∈ l, a ≤ x.no ∧ x.no ≤ m) → (∀ y, prev = some y → a ≤ y + 1) → (l.length : Int) ≤ m + 1 - a ∨ l = []
  | [], _, _, _, _, _, _ => .inr rfl
  | x :: l, prev, a, m, h, hb, hp => by
    left
    obtain ⟨h1, h2⟩ := h
    have hx := hb x (by simp)
    rcases rises_len l (some x.no) (x.no + 1) m h2 (fun y hy => ⟨by have := rises_lt h2 y hy _ rfl; omega, (hb y (by simp [hy])).2⟩) (fun y e => by injection e with e; omega) with h3 | h3
    · simp; omega
    · subst h3; simp; omega
theorem Sheet.Ok.keptLen {c : Code} {s : Sheet} (hs : s.Ok c) : s.kept.length ≤ 12 := by
  have h1 := hs.l1; have h2 := hs.l2
  rcases rises_len s.kept none 1 s.lines hs.rises (fun x hx => ⟨(hs.line x hx).no1, (hs.line x hx).no2⟩) (fun y e => by cases e) with h | h
  · omega
  · rw [h]; simp
end Go.Bp
end
section
/- Strings: joined, made of one byte. -/
set_option maxRecDepth 100000
namespace Go.Bp
open Go.RowKit Go.Proofs
section
variable {P : Program} {ops : Array Oper} {Q : Exit → Act → World → Prop} {a : Act} {w : World} {rest : List Oper}
variable {d : Option Tmp} {ty ty' : TypeId} {pos : String} {after : Array Edge}
theorem run_cat {S : World → Prop} {x y : Operand} {p q r : ByteArray} (hx : a.eval x = .string p) (hy : a.eval y = .string q) (hr : p ++ q = r) (hs : p.size + q.size ≤ 1000000000) :
    ∀ w, S w → (execOp a.eval (⟨d, .binOp .add 9 x y ty', ty, pos, after, none⟩ : Oper)).run P w = .ok (.value (.string r)) w := by
  intro w _
  have h := run_string_add_sum (P := P) w p q (by omega)
  rw [hr] at h
  simp [execOp, hx, hy, binOp, h, Result.andThen, eqGuard]
theorem q_cat {x y : Operand} {p q r : ByteArray} (hx : a.eval x = .string p) (hy : a.eval y = .string q) (hr : p ++ q = r) (hs : p.size + q.size ≤ 1000000000)
    (k : wpList P ops Q rest (a.put d (.string r)) w) : wpList P ops Q (⟨d, .binOp .add 9 x y ty', ty, pos, after, none⟩ :: rest) a w :=
  q_val rfl (run_cat (S := fun _ => True) hx hy hr hs w trivial) k
end
section
variable {ops : Array Oper} {Q : Exit → Act → World → Prop} {a : Act} {w : World} {rest : List Oper}
variable {d : Option Tmp} {ty : TypeId} {pos : String} {after : Array Edge}
theorem ti5 : (Tryz.prog.info? 5).map (fun i => (i.zero, i.size, i.bytes)) = some (some (.int .u8 0), 1, 1) := by kernel_rfl
theorem q_bsB {x : Operand} {n : Int} (hx : a.eval x = .int .u8 n)
    (k : ∀ W g, Ext w W → Blk W g 5 #[.int .u8 n] → w.heap.size ≤ g → wpList Tryz.prog ops Q rest (a.put d (.slice (some ⟨g, 0, none⟩) 1 1)) W) :
    wpList Tryz.prog ops Q (⟨d, .buildSlice 58 1 #[(0, x)], ty, pos, after, none⟩ :: rest) a w :=
  q_bs1 Tryz.underlying58 ti5 rfl (by rw [hx]; rfl) (by rw [hx]; exact k)
theorem q_b2s {x : Operand} {g : Nat} {b : UInt8} (hx : a.eval x = .slice (some ⟨g, 0, none⟩) 1 1) (hb : Blk w g 5 #[.int .u8 (b.toNat : Int)])
    (k : wpList Tryz.prog ops Q rest (a.put d (.string (Bp.S [b]))) w) :
    wpList Tryz.prog ops Q (⟨d, .convert 58 9 x, ty, pos, after, none⟩ :: rest) a w := by
  refine q_val rfl ?_ k
  have h := run_convert_bytes_back (P := Tryz.prog) w 58 9 5 ⟨g, 0, none⟩ 1 [b] Tryz.underlying58 Tryz.underlying5 Tryz.underlying9 (fun j hj => by
    have : j = 0 := by simpa using hj
    subst this
    have := hb.cell 0
    simpa [Addr.add] using this)
  simp only [List.length_singleton] at h
  simp [execOp, hx, h, Result.andThen]
  rfl
end
end Go.Bp
end
