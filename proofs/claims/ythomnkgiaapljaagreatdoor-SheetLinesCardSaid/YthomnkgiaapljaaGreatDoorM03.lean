/- Texts R12 Quiet Spec7 R13 R14 SS Spec8 R15 Spec9 Held R16 Spec10 of the proof, merged: contracts of functions of chapter 10, of the program and of the reference, and plain laws. -/
import Derived.BigQuiet
import Derived.Deep.QuietTactic
import Derived.Deep.RegionHeld3
import Derived.OrdersHeld
import Derived.Test.YthomnkgiaapljaaGreatDoorM01
import Derived.Test.YthomnkgiaapljaaGreatDoorM02
section
set_option maxRecDepth 100000
set_option linter.unusedSimpArgs false
set_option linter.unusedVariables false
namespace Go.Bp
open Go.RowKit Go.Proofs
set_option maxHeartbeats 3000000 in
theorem RFit_any (cv sv tv : Value) (c : Code) (s : Sheet) (t : List Int) (w : World) (h : CodeV w cv c) (hsv : SheetV w sv s) (htv : Ints w tv t) (ho : c.Ok) (hs : s.Ok c) (ht : c.TestOk t) :
    Calls Tryz.prog 45 #[cv, sv, tv] w fun e w' => e = .returned (.bool (fits c s t)) ∧ Ext w w' := by
  obtain ⟨fv, mv, rfl, hF, hM, hW⟩ := h
  obtain ⟨kv, rfl, hK⟩ := hsv
  have hT := htv
  obtain ⟨A, cp, rfl, h1, h2, h3, h4⟩ := hK
  have hK : Lines w (.slice A s.kept.length cp) s.kept := ⟨A, cp, rfl, h1, h2, h3, h4⟩
  obtain ⟨A', cp', rfl, h1', h2', h3', h4'⟩ := htv
  unfold maxLen at h2 h2'
  clear h3 h3'
  have hE := Ext.refl w
  have HW := Lib.hid hW
  have Ho := Lib.hid ho
  have Hs := Lib.hid hs
  have Ht := Lib.hid ht
  have hl12 := ht.1
  have hs1 := hs.l1
  have hs2 := hs.l2
  clear hW ho hs ht
  by_cases hlen : (t.length : Int) = s.lines
  · have q0 : ((t.length : Int) != s.lines) = false := by simp [hlen]
    have Hlen := Lib.hid hlen
    have hln : s.lines ≤ t.length := by omega
    clear hlen
    go_enter Tryz.func45, Tryz.ntmps45
    go_wp2_with (first | ((with_reducible refine q_box (d := some 3) ?_); intro W3 g3 hE3 hB3 hg3; simp [Act.eval, Act.put, Value.cells] at hB3; (try replace hE := hE.trans hE3); (try replace hF := hF.ext hE3); (try replace hM := hM.ext hE3); (try replace hK := hK.ext hE3); (try replace hT := hT.ext hE3); (try replace hB3 := hB3.ext hE3); (try replace hB4 := hB4.ext hE3); (try replace hb3_0 := Ext.cell_some hE3 hb3_0); (try replace hb3_1 := Ext.cell_some hE3 hb3_1); (try replace hb3_2 := Ext.cell_some hE3 hb3_2); (try replace hb4_0 := Ext.cell_some hE3 hb4_0); (try replace hb4_1 := Ext.cell_some hE3 hb4_1); have hb3_0 := hB3.cell 0; have hb3_1 := hB3.cell 1; have hb3_2 := hB3.cell 2; simp at hb3_0 hb3_1 hb3_2; clear hE3) | ((with_reducible refine q_box (d := some 4) ?_); intro W4 g4 hE4 hB4 hg4; simp [Act.eval, Act.put, Value.cells] at hB4; (try replace hE := hE.trans hE4); (try replace hF := hF.ext hE4); (try replace hM := hM.ext hE4); (try replace hK := hK.ext hE4); (try replace hT := hT.ext hE4); (try replace hB3 := hB3.ext hE4); (try replace hB4 := hB4.ext hE4); (try replace hb3_0 := Ext.cell_some hE4 hb3_0); (try replace hb3_1 := Ext.cell_some hE4 hb3_1); (try replace hb3_2 := Ext.cell_some hE4 hb3_2); (try replace hb4_0 := Ext.cell_some hE4 hb4_0); (try replace hb4_1 := Ext.cell_some hE4 hb4_1); have hb4_0 := hB4.cell 0; have hb4_1 := hB4.cell 1; simp at hb4_0 hb4_1; clear hE4))
    go_loopw [7] (fun i wr => Ext W4 wr ∧ ∃ k : Nat, k ≤ s.kept.length ∧ i = .int .i64 k ∧ ∀ j (hj : j < s.kept.length), j < k → lineFits c t s.kept[j] = true) (fun i _ => s.kept.length - (intOf i).toNat)
    case atStart => exact ⟨Ext.refl _, 0, by omega, rfl, by omega⟩
    case round =>
      obtain ⟨hEr, k, hk, rfl, hfi⟩ := hrel
      (try replace hE := hE.trans hEr); (try replace hF := hF.ext hEr); (try replace hM := hM.ext hEr); (try replace hK := hK.ext hEr); (try replace hT := hT.ext hEr); (try replace hB3 := hB3.ext hEr); (try replace hB4 := hB4.ext hEr); (try replace hb3_0 := Ext.cell_some hEr hb3_0); (try replace hb3_1 := Ext.cell_some hEr hb3_1); (try replace hb3_2 := Ext.cell_some hEr hb3_2); (try replace hb4_0 := Ext.cell_some hEr hb4_0); (try replace hb4_1 := Ext.cell_some hEr hb4_1)
      have Hfi := Lib.hid hfi
      clear hfi
      by_cases hlt : k < s.kept.length
      · obtain ⟨ad, rfl, hc⟩ := h4 (by omega)
        obtain ⟨ad', rfl, hc'⟩ := h4' (by omega)
        replace hc := hc.ext hE
        replace hc' := hc'.ext hE
        have hlo := Hs.out.line _ (List.getElem_mem hlt)
        have b1 := hlo.no1
        have b2 := hlo.no2
        obtain ⟨n, hn⟩ := Int.eq_ofNat_of_zero_le (a := s.kept[k].no) (by omega)
        have hn1 : n - 1 < t.length := by omega
        have eS := ld_l hc hlt
        rw [hn] at eS b1 b2
        have eT := hc'.i hn1
        have hgd : t.getD (s.kept[k].no - 1).toNat 0 = t[n - 1] := by
          have : (s.kept[k].no - 1).toNat = n - 1 := by omega
          rw [this]; simp [List.getD, hn1]
        have hnn : s.kept[k].no.toNat = n := by omega
        have Hn := Lib.hid hn
        have Hnn := Lib.hid hnn
        have z1 : IntKind.i64.wrap ((n : Int) - 1) = (n : Int) - 1 := IntWalk.i64_in _ (by omega)
        have z3 : (n : Int) - 1 < (t.length : Int) := by omega
        have z4 : ((n : Int) - 1).toNat = n - 1 := by omega
        have z5 : (n : Int) ≤ (t.length : Int) := by omega
        have z6 : (n : Int) ≤ (cp' : Int) := by omega
        have z7 : (0 : Int) ≤ (n : Int) := by omega
        clear h4 h4' hc hc' hlo hn hnn
        by_cases p1 : t[n - 1] = s.kept[k].what
        · have q1 : (t[n - 1] != s.kept[k].what) = false := by simp [p1]
          have Hp1 := Lib.hid p1
          have htk := Ht.out.take n
          have Htk := Lib.hid htk
          clear p1 htk
          by_cases p2 : c.total (t.take n) = s.kept[k].sum
          · have q2 : (c.total (t.take n) != s.kept[k].sum) = false := by simp [p2]
            have hf : lineFits c t s.kept[k] = true := by simp only [lineFits, hgd, Hnn.out, Hp1.out, p2]; simp
            have Hf := Lib.hid hf
            clear hf p2 hgd
            go_wp2_with (first | ((with_reducible refine q_load (d := some 25) (hl := eS) ?_ ?_); rfl) | ((with_reducible refine q_newvar (e := 99) (u := 8) (v := .agg #[.int .i64 n, .int .i64 s.kept[k].what, .int .i64 s.kept[k].sum]) ti99 ?_ ?_ ?_ ?_ ?_ ?_); (intro g; rfl); (intro g; rfl); rfl; rfl; (simp [Value.cells, Value.oneCell']); intro W8 g8 hE8 hB8 hg8; simp [Value.cells] at hB8; (try replace hE := hE.trans hE8); (try replace hEr := hEr.trans hE8); (try replace hF := hF.ext hE8); (try replace hM := hM.ext hE8); (try replace hK := hK.ext hE8); (try replace hT := hT.ext hE8); (try replace hB3 := hB3.ext hE8); (try replace hB4 := hB4.ext hE8); (try replace hb3_0 := Ext.cell_some hE8 hb3_0); (try replace hb3_1 := Ext.cell_some hE8 hb3_1); (try replace hb3_2 := Ext.cell_some hE8 hb3_2); (try replace hb4_0 := Ext.cell_some hE8 hb4_0); (try replace hb4_1 := Ext.cell_some hE8 hb4_1); (try replace eT := Ext.cell_some hE8 eT); have hb8_0 := hB8.cell 0; have hb8_1 := hB8.cell 1; have hb8_2 := hB8.cell 2; simp at hb8_0 hb8_1 hb8_2; clear hE8) | ((with_reducible refine q_box (d := some 3) ?_); intro W3 g3 hE3 hB3 hg3; simp [Act.eval, Act.put, Value.cells] at hB3; (try replace hE := hE.trans hE3); (try replace hEr := hEr.trans hE3); (try replace hF := hF.ext hE3); (try replace hM := hM.ext hE3); (try replace hK := hK.ext hE3); (try replace hT := hT.ext hE3); (try replace hB3 := hB3.ext hE3); (try replace hB4 := hB4.ext hE3); (try replace hb3_0 := Ext.cell_some hE3 hb3_0); (try replace hb3_1 := Ext.cell_some hE3 hb3_1); (try replace hb3_2 := Ext.cell_some hE3 hb3_2); (try replace hb4_0 := Ext.cell_some hE3 hb4_0); (try replace hb4_1 := Ext.cell_some hE3 hb4_1); (try replace eT := Ext.cell_some hE3 eT); have hb3_0 := hB3.cell 0; have hb3_1 := hB3.cell 1; have hb3_2 := hB3.cell 2; simp at hb3_0 hb3_1 hb3_2; clear hE3) | ((with_reducible refine q_box (d := some 4) ?_); intro W4 g4 hE4 hB4 hg4; simp [Act.eval, Act.put, Value.cells] at hB4; (try replace hE := hE.trans hE4); (try replace hEr := hEr.trans hE4); (try replace hF := hF.ext hE4); (try replace hM := hM.ext hE4); (try replace hK := hK.ext hE4); (try replace hT := hT.ext hE4); (try replace hB3 := hB3.ext hE4); (try replace hB4 := hB4.ext hE4); (try replace hb3_0 := Ext.cell_some hE4 hb3_0); (try replace hb3_1 := Ext.cell_some hE4 hb3_1); (try replace hb3_2 := Ext.cell_some hE4 hb3_2); (try replace hb4_0 := Ext.cell_some hE4 hb4_0); (try replace hb4_1 := Ext.cell_some hE4 hb4_1); (try replace eT := Ext.cell_some hE4 eT); have hb4_0 := hB4.cell 0; have hb4_1 := hB4.cell 1; simp at hb4_0 hb4_1; clear hE4))
            go_region_held3 (fun w' => w'.cell? ⟨g3, 0, none⟩ = some (fv) ∧ w'.cell? ⟨g3, 1, none⟩ = some (mv) ∧ w'.cell? ⟨g3, 2, none⟩ = some (.int .i64 c.all) ∧ w'.cell? (ad'.add (n - 1)) = some (.int .i64 t[n - 1]) ∧ w'.cell? ((⟨g8, 0, none⟩)) = some (.int .i64 n) ∧ w'.cell? ((⟨g8, 1, none⟩)) = some (.int .i64 s.kept[k].what) ∧ w'.cell? ((⟨g8, 2, none⟩)) = some (.int .i64 s.kept[k].sum)) (simp [*]) ((first | (go_at_call 63; ((with_reducible refine (Total_ok _ _ c (t.take n) _ (by first | exact CodeV.of hF hM HW.out | exact (CodeV.of hF hM HW.out).d) (by first | exact hT.cut (by omega) | exact (hT.cut (by omega)).d) Ho.out Htk.out).mono ?_); rintro e Wc1 ⟨rfl, hEc1⟩; (try replace hEc1 := Ext.undrew hEc1); (try replace hE := hE.trans hEc1); (try replace hEr := hEr.trans hEc1); (try replace hF := hF.ext hEc1); (try replace hM := hM.ext hEc1); (try replace hK := hK.ext hEc1); (try replace hT := hT.ext hEc1); (try replace hB3 := hB3.ext hEc1); (try replace hB4 := hB4.ext hEc1); (try replace hB8 := hB8.ext hEc1); (try replace hb3_0 := Ext.cell_some hEc1 hb3_0); (try replace hb3_1 := Ext.cell_some hEc1 hb3_1); (try replace hb3_2 := Ext.cell_some hEc1 hb3_2); (try replace hb4_0 := Ext.cell_some hEc1 hb4_0); (try replace hb4_1 := Ext.cell_some hEc1 hb4_1); (try replace eT := Ext.cell_some hEc1 eT); (try replace hb8_0 := Ext.cell_some hEc1 hb8_0); (try replace hb8_1 := Ext.cell_some hEc1 hb8_1); (try replace hb8_2 := Ext.cell_some hEc1 hb8_2)))))
            go_wp2
            go_roundw
            case rel => exact ⟨hEr, k + 1, by omega, by go_num, fun j hj hjk => by by_cases e : j = k; · subst e; exact Hf.out
                                                                                   · exact Hfi.out j hj (by omega)⟩
            case measure => simp [intOf]; omega
          · have q2 : (c.total (t.take n) != s.kept[k].sum) = true := by simp [p2]
            have hf : lineFits c t s.kept[k] = false := by simp only [lineFits, hgd, Hnn.out, Hp1.out]; simp [p2]
            have Hf := Lib.hid (fits_no hlt hf)
            clear hf p2 hgd
            go_wp2_with (first | ((with_reducible refine q_load (d := some 25) (hl := eS) ?_ ?_); rfl) | ((with_reducible refine q_newvar (e := 99) (u := 8) (v := .agg #[.int .i64 n, .int .i64 s.kept[k].what, .int .i64 s.kept[k].sum]) ti99 ?_ ?_ ?_ ?_ ?_ ?_); (intro g; rfl); (intro g; rfl); rfl; rfl; (simp [Value.cells, Value.oneCell']); intro W8 g8 hE8 hB8 hg8; simp [Value.cells] at hB8; (try replace hE := hE.trans hE8); (try replace hEr := hEr.trans hE8); (try replace hF := hF.ext hE8); (try replace hM := hM.ext hE8); (try replace hK := hK.ext hE8); (try replace hT := hT.ext hE8); (try replace hB3 := hB3.ext hE8); (try replace hB4 := hB4.ext hE8); (try replace hB8 := hB8.ext hE8); (try replace hb3_0 := Ext.cell_some hE8 hb3_0); (try replace hb3_1 := Ext.cell_some hE8 hb3_1); (try replace hb3_2 := Ext.cell_some hE8 hb3_2); (try replace hb4_0 := Ext.cell_some hE8 hb4_0); (try replace hb4_1 := Ext.cell_some hE8 hb4_1); (try replace eT := Ext.cell_some hE8 eT); (try replace hb8_0 := Ext.cell_some hE8 hb8_0); (try replace hb8_1 := Ext.cell_some hE8 hb8_1); (try replace hb8_2 := Ext.cell_some hE8 hb8_2); have hb8_0 := hB8.cell 0; have hb8_1 := hB8.cell 1; have hb8_2 := hB8.cell 2; simp at hb8_0 hb8_1 hb8_2; clear hE8) | ((with_reducible refine q_box (d := some 3) ?_); intro W3 g3 hE3 hB3 hg3; simp [Act.eval, Act.put, Value.cells] at hB3; (try replace hE := hE.trans hE3); (try replace hEr := hEr.trans hE3); (try replace hF := hF.ext hE3); (try replace hM := hM.ext hE3); (try replace hK := hK.ext hE3); (try replace hT := hT.ext hE3); (try replace hB3 := hB3.ext hE3); (try replace hB4 := hB4.ext hE3); (try replace hB8 := hB8.ext hE3); (try replace hb3_0 := Ext.cell_some hE3 hb3_0); (try replace hb3_1 := Ext.cell_some hE3 hb3_1); (try replace hb3_2 := Ext.cell_some hE3 hb3_2); (try replace hb4_0 := Ext.cell_some hE3 hb4_0); (try replace hb4_1 := Ext.cell_some hE3 hb4_1); (try replace eT := Ext.cell_some hE3 eT); (try replace hb8_0 := Ext.cell_some hE3 hb8_0); (try replace hb8_1 := Ext.cell_some hE3 hb8_1); (try replace hb8_2 := Ext.cell_some hE3 hb8_2); have hb3_0 := hB3.cell 0; have hb3_1 := hB3.cell 1; have hb3_2 := hB3.cell 2; simp at hb3_0 hb3_1 hb3_2; clear hE3) | ((with_reducible refine q_box (d := some 4) ?_); intro W4 g4 hE4 hB4 hg4; simp [Act.eval, Act.put, Value.cells] at hB4; (try replace hE := hE.trans hE4); (try replace hEr := hEr.trans hE4); (try replace hF := hF.ext hE4); (try replace hM := hM.ext hE4); (try replace hK := hK.ext hE4); (try replace hT := hT.ext hE4); (try replace hB3 := hB3.ext hE4); (try replace hB4 := hB4.ext hE4); (try replace hB8 := hB8.ext hE4); (try replace hb3_0 := Ext.cell_some hE4 hb3_0); (try replace hb3_1 := Ext.cell_some hE4 hb3_1); (try replace hb3_2 := Ext.cell_some hE4 hb3_2); (try replace hb4_0 := Ext.cell_some hE4 hb4_0); (try replace hb4_1 := Ext.cell_some hE4 hb4_1); (try replace eT := Ext.cell_some hE4 eT); (try replace hb8_0 := Ext.cell_some hE4 hb8_0); (try replace hb8_1 := Ext.cell_some hE4 hb8_1); (try replace hb8_2 := Ext.cell_some hE4 hb8_2); have hb4_0 := hB4.cell 0; have hb4_1 := hB4.cell 1; simp at hb4_0 hb4_1; clear hE4))
            go_region_held3 (fun w' => w'.cell? ⟨g3, 0, none⟩ = some (fv) ∧ w'.cell? ⟨g3, 1, none⟩ = some (mv) ∧ w'.cell? ⟨g3, 2, none⟩ = some (.int .i64 c.all) ∧ w'.cell? (ad'.add (n - 1)) = some (.int .i64 t[n - 1]) ∧ w'.cell? ((⟨g8, 0, none⟩)) = some (.int .i64 n) ∧ w'.cell? ((⟨g8, 1, none⟩)) = some (.int .i64 s.kept[k].what) ∧ w'.cell? ((⟨g8, 2, none⟩)) = some (.int .i64 s.kept[k].sum)) (simp [*]) ((first | (go_at_call 63; ((with_reducible refine (Total_ok _ _ c (t.take n) _ (by first | exact CodeV.of hF hM HW.out | exact (CodeV.of hF hM HW.out).d) (by first | exact hT.cut (by omega) | exact (hT.cut (by omega)).d) Ho.out Htk.out).mono ?_); rintro e Wc2 ⟨rfl, hEc2⟩; (try replace hEc2 := Ext.undrew hEc2); (try replace hE := hE.trans hEc2); (try replace hEr := hEr.trans hEc2); (try replace hF := hF.ext hEc2); (try replace hM := hM.ext hEc2); (try replace hK := hK.ext hEc2); (try replace hT := hT.ext hEc2); (try replace hB3 := hB3.ext hEc2); (try replace hB4 := hB4.ext hEc2); (try replace hB8 := hB8.ext hEc2); (try replace hb3_0 := Ext.cell_some hEc2 hb3_0); (try replace hb3_1 := Ext.cell_some hEc2 hb3_1); (try replace hb3_2 := Ext.cell_some hEc2 hb3_2); (try replace hb4_0 := Ext.cell_some hEc2 hb4_0); (try replace hb4_1 := Ext.cell_some hEc2 hb4_1); (try replace eT := Ext.cell_some hEc2 eT); (try replace hb8_0 := Ext.cell_some hEc2 hb8_0); (try replace hb8_1 := Ext.cell_some hEc2 hb8_1); (try replace hb8_2 := Ext.cell_some hEc2 hb8_2)))))
            go_wp2
            go_ret
            exact ⟨ret_b Hf.out.symm, hE⟩
        · have q1 : (t[n - 1] != s.kept[k].what) = true := by simp [p1]
          have hf : lineFits c t s.kept[k] = false := by simp only [lineFits, hgd]; simp [p1]
          have Hf := Lib.hid (fits_no hlt hf)
          clear hf p1 hgd
          go_wp2_with (first | ((with_reducible refine q_load (d := some 25) (hl := eS) ?_ ?_); rfl) | ((with_reducible refine q_newvar (e := 99) (u := 8) (v := .agg #[.int .i64 n, .int .i64 s.kept[k].what, .int .i64 s.kept[k].sum]) ti99 ?_ ?_ ?_ ?_ ?_ ?_); (intro g; rfl); (intro g; rfl); rfl; rfl; (simp [Value.cells, Value.oneCell']); intro W8 g8 hE8 hB8 hg8; simp [Value.cells] at hB8; (try replace hE := hE.trans hE8); (try replace hEr := hEr.trans hE8); (try replace hF := hF.ext hE8); (try replace hM := hM.ext hE8); (try replace hK := hK.ext hE8); (try replace hT := hT.ext hE8); (try replace hB3 := hB3.ext hE8); (try replace hB4 := hB4.ext hE8); (try replace hB8 := hB8.ext hE8); (try replace hb3_0 := Ext.cell_some hE8 hb3_0); (try replace hb3_1 := Ext.cell_some hE8 hb3_1); (try replace hb3_2 := Ext.cell_some hE8 hb3_2); (try replace hb4_0 := Ext.cell_some hE8 hb4_0); (try replace hb4_1 := Ext.cell_some hE8 hb4_1); (try replace eT := Ext.cell_some hE8 eT); (try replace hb8_0 := Ext.cell_some hE8 hb8_0); (try replace hb8_1 := Ext.cell_some hE8 hb8_1); (try replace hb8_2 := Ext.cell_some hE8 hb8_2); have hb8_0 := hB8.cell 0; have hb8_1 := hB8.cell 1; have hb8_2 := hB8.cell 2; simp at hb8_0 hb8_1 hb8_2; clear hE8) | ((with_reducible refine q_box (d := some 3) ?_); intro W3 g3 hE3 hB3 hg3; simp [Act.eval, Act.put, Value.cells] at hB3; (try replace hE := hE.trans hE3); (try replace hEr := hEr.trans hE3); (try replace hF := hF.ext hE3); (try replace hM := hM.ext hE3); (try replace hK := hK.ext hE3); (try replace hT := hT.ext hE3); (try replace hB3 := hB3.ext hE3); (try replace hB4 := hB4.ext hE3); (try replace hB8 := hB8.ext hE3); (try replace hb3_0 := Ext.cell_some hE3 hb3_0); (try replace hb3_1 := Ext.cell_some hE3 hb3_1); (try replace hb3_2 := Ext.cell_some hE3 hb3_2); (try replace hb4_0 := Ext.cell_some hE3 hb4_0); (try replace hb4_1 := Ext.cell_some hE3 hb4_1); (try replace eT := Ext.cell_some hE3 eT); (try replace hb8_0 := Ext.cell_some hE3 hb8_0); (try replace hb8_1 := Ext.cell_some hE3 hb8_1); (try replace hb8_2 := Ext.cell_some hE3 hb8_2); have hb3_0 := hB3.cell 0; have hb3_1 := hB3.cell 1; have hb3_2 := hB3.cell 2; simp at hb3_0 hb3_1 hb3_2; clear hE3) | ((with_reducible refine q_box (d := some 4) ?_); intro W4 g4 hE4 hB4 hg4; simp [Act.eval, Act.put, Value.cells] at hB4; (try replace hE := hE.trans hE4); (try replace hEr := hEr.trans hE4); (try replace hF := hF.ext hE4); (try replace hM := hM.ext hE4); (try replace hK := hK.ext hE4); (try replace hT := hT.ext hE4); (try replace hB3 := hB3.ext hE4); (try replace hB4 := hB4.ext hE4); (try replace hB8 := hB8.ext hE4); (try replace hb3_0 := Ext.cell_some hE4 hb3_0); (try replace hb3_1 := Ext.cell_some hE4 hb3_1); (try replace hb3_2 := Ext.cell_some hE4 hb3_2); (try replace hb4_0 := Ext.cell_some hE4 hb4_0); (try replace hb4_1 := Ext.cell_some hE4 hb4_1); (try replace eT := Ext.cell_some hE4 eT); (try replace hb8_0 := Ext.cell_some hE4 hb8_0); (try replace hb8_1 := Ext.cell_some hE4 hb8_1); (try replace hb8_2 := Ext.cell_some hE4 hb8_2); have hb4_0 := hB4.cell 0; have hb4_1 := hB4.cell 1; simp at hb4_0 hb4_1; clear hE4))
          refine wp_region_quiet_lit (by kernel_rfl) (by kernel_rfl) ?_
          repeat (any_goals (first | go_big_quiet_step (fail) | quiet_step (fail)))
          refine wpQuiet_nil ?_
          intro _ hw'
          obtain ⟨nq, hw''⟩ := hw'
          subst hw''
          go_wp2
          go_ret
          exact ⟨ret_b Hf.out.symm, hE.drewN _⟩
      · obtain rfl : k = s.kept.length := by omega
        have hf := fits_yes (c := c) Hlen.out (fun j hj => Hfi.out j hj hj)
        have Hf := Lib.hid hf
        clear hf h4 h4'
        go_wp2
        go_ret
        exact ⟨ret_b Hf.out.symm, hE⟩
  · have q0 : ((t.length : Int) != s.lines) = true := by rw [bne_iff_ne]; exact hlen
    have hf := fits_len (c := c) hlen
    have Hf := Lib.hid hf
    clear hf hlen h4 h4'
    go_enter Tryz.func45, Tryz.ntmps45
    go_wp2_with (first | ((with_reducible refine q_box (d := some 3) ?_); intro W3 g3 hE3 hB3 hg3; simp [Act.eval, Act.put, Value.cells] at hB3; (try replace hE := hE.trans hE3); (try replace hEr := hEr.trans hE3); (try replace hF := hF.ext hE3); (try replace hM := hM.ext hE3); (try replace hK := hK.ext hE3); (try replace hT := hT.ext hE3); (try replace hB3 := hB3.ext hE3); (try replace hB4 := hB4.ext hE3); (try replace hB8 := hB8.ext hE3); (try replace hb3_0 := Ext.cell_some hE3 hb3_0); (try replace hb3_1 := Ext.cell_some hE3 hb3_1); (try replace hb3_2 := Ext.cell_some hE3 hb3_2); (try replace hb4_0 := Ext.cell_some hE3 hb4_0); (try replace hb4_1 := Ext.cell_some hE3 hb4_1); (try replace eT := Ext.cell_some hE3 eT); (try replace hb8_0 := Ext.cell_some hE3 hb8_0); (try replace hb8_1 := Ext.cell_some hE3 hb8_1); (try replace hb8_2 := Ext.cell_some hE3 hb8_2); have hb3_0 := hB3.cell 0; have hb3_1 := hB3.cell 1; have hb3_2 := hB3.cell 2; simp at hb3_0 hb3_1 hb3_2; clear hE3) | ((with_reducible refine q_box (d := some 4) ?_); intro W4 g4 hE4 hB4 hg4; simp [Act.eval, Act.put, Value.cells] at hB4; (try replace hE := hE.trans hE4); (try replace hEr := hEr.trans hE4); (try replace hF := hF.ext hE4); (try replace hM := hM.ext hE4); (try replace hK := hK.ext hE4); (try replace hT := hT.ext hE4); (try replace hB3 := hB3.ext hE4); (try replace hB4 := hB4.ext hE4); (try replace hB8 := hB8.ext hE4); (try replace hb3_0 := Ext.cell_some hE4 hb3_0); (try replace hb3_1 := Ext.cell_some hE4 hb3_1); (try replace hb3_2 := Ext.cell_some hE4 hb3_2); (try replace hb4_0 := Ext.cell_some hE4 hb4_0); (try replace hb4_1 := Ext.cell_some hE4 hb4_1); (try replace eT := Ext.cell_some hE4 eT); (try replace hb8_0 := Ext.cell_some hE4 hb8_0); (try replace hb8_1 := Ext.cell_some hE4 hb8_1); (try replace hb8_2 := Ext.cell_some hE4 hb8_2); have hb4_0 := hB4.cell 0; have hb4_1 := hB4.cell 1; simp at hb4_0 hb4_1; clear hE4))
    go_ret
    exact ⟨ret_b Hf.out.symm, hE⟩
set_option maxHeartbeats 1000000 in
theorem Rasked_any (cv sv : Value) (c : Code) (s : Sheet) (w : World) (h : CodeV w cv c) (hsv : SheetV w sv s) :
    Calls Tryz.prog 74 #[cv, sv] w fun e w' => e = .returned (.int .i64 (s.asked c)) ∧ Ext w w' := by
  obtain ⟨fv, mv, rfl, hF, hM, hW⟩ := h
  obtain ⟨kv, rfl, hK⟩ := hsv
  have hE := Ext.refl w
  have HW := Lib.hid hW
  clear hW
  by_cases hc : c.check.2.2 = 0
  · have Ho := Lib.hid (Code.ok_of_check hc)
    have q1 : (c.check.2.2 == 0) = true := by simp [hc]
    have Hr := Lib.hid (Sheet.asked_s (s := s) hc)
    clear hc
    go_enter Tryz.func74, Tryz.ntmps74
    go_wp2_with (first | (go_at_call 18; ((with_reducible refine (RCheck_any _ c _ (by exact CodeV.of hF hM HW.out)).mono ?_); rintro e Wc1 ⟨rfl, hEc1⟩; (try replace hEc1 := Ext.undrew hEc1); (try replace hE := hE.trans hEc1); (try replace hF := hF.ext hEc1); (try replace hM := hM.ext hEc1); (try replace hK := hK.ext hEc1); (try replace hB2 := hB2.ext hEc1); (try replace hB3 := hB3.ext hEc1); (try replace hb2_0 := Ext.cell_some hEc1 hb2_0); (try replace hb2_1 := Ext.cell_some hEc1 hb2_1); (try replace hb2_2 := Ext.cell_some hEc1 hb2_2); (try replace hb3_0 := Ext.cell_some hEc1 hb3_0); (try replace hb3_1 := Ext.cell_some hEc1 hb3_1))) | (go_at_call 96; ((with_reducible refine (RSheet_any _ _ c s _ (by exact CodeV.of hF hM HW.out) (by exact SheetV.of hK) Ho.out).mono ?_); rintro e Wc2 ⟨rfl, hEc2⟩; (try replace hEc2 := Ext.undrew hEc2); (try replace hE := hE.trans hEc2); (try replace hF := hF.ext hEc2); (try replace hM := hM.ext hEc2); (try replace hK := hK.ext hEc2); (try replace hB2 := hB2.ext hEc2); (try replace hB3 := hB3.ext hEc2); (try replace hb2_0 := Ext.cell_some hEc2 hb2_0); (try replace hb2_1 := Ext.cell_some hEc2 hb2_1); (try replace hb2_2 := Ext.cell_some hEc2 hb2_2); (try replace hb3_0 := Ext.cell_some hEc2 hb3_0); (try replace hb3_1 := Ext.cell_some hEc2 hb3_1))) | ((with_reducible refine q_box (d := some 2) ?_); intro W2 g2 hE2 hB2 hg2; simp [Act.eval, Act.put, Value.cells] at hB2; (try replace hE := hE.trans hE2); (try replace hF := hF.ext hE2); (try replace hM := hM.ext hE2); (try replace hK := hK.ext hE2); (try replace hB2 := hB2.ext hE2); (try replace hB3 := hB3.ext hE2); (try replace hb2_0 := Ext.cell_some hE2 hb2_0); (try replace hb2_1 := Ext.cell_some hE2 hb2_1); (try replace hb2_2 := Ext.cell_some hE2 hb2_2); (try replace hb3_0 := Ext.cell_some hE2 hb3_0); (try replace hb3_1 := Ext.cell_some hE2 hb3_1); have hb2_0 := hB2.cell 0; have hb2_1 := hB2.cell 1; have hb2_2 := hB2.cell 2; simp at hb2_0 hb2_1 hb2_2; clear hE2) | ((with_reducible refine q_box (d := some 3) ?_); intro W3 g3 hE3 hB3 hg3; simp [Act.eval, Act.put, Value.cells] at hB3; (try replace hE := hE.trans hE3); (try replace hF := hF.ext hE3); (try replace hM := hM.ext hE3); (try replace hK := hK.ext hE3); (try replace hB2 := hB2.ext hE3); (try replace hB3 := hB3.ext hE3); (try replace hb2_0 := Ext.cell_some hE3 hb2_0); (try replace hb2_1 := Ext.cell_some hE3 hb2_1); (try replace hb2_2 := Ext.cell_some hE3 hb2_2); (try replace hb3_0 := Ext.cell_some hE3 hb3_0); (try replace hb3_1 := Ext.cell_some hE3 hb3_1); have hb3_0 := hB3.cell 0; have hb3_1 := hB3.cell 1; simp at hb3_0 hb3_1; clear hE3))
    go_ret
    exact ⟨ret_i Hr.out.symm, hE⟩
  · have q1 : (c.check.2.2 == 0) = false := by simp [hc]
    have Hr := Lib.hid (Sheet.asked_e (s := s) hc)
    clear hc
    go_enter Tryz.func74, Tryz.ntmps74
    go_wp2_with (first | (go_at_call 18; ((with_reducible refine (RCheck_any _ c _ (by exact CodeV.of hF hM HW.out)).mono ?_); rintro e Wc3 ⟨rfl, hEc3⟩; (try replace hEc3 := Ext.undrew hEc3); (try replace hE := hE.trans hEc3); (try replace hF := hF.ext hEc3); (try replace hM := hM.ext hEc3); (try replace hK := hK.ext hEc3); (try replace hB2 := hB2.ext hEc3); (try replace hB3 := hB3.ext hEc3); (try replace hb2_0 := Ext.cell_some hEc3 hb2_0); (try replace hb2_1 := Ext.cell_some hEc3 hb2_1); (try replace hb2_2 := Ext.cell_some hEc3 hb2_2); (try replace hb3_0 := Ext.cell_some hEc3 hb3_0); (try replace hb3_1 := Ext.cell_some hEc3 hb3_1))) | ((with_reducible refine q_box (d := some 2) ?_); intro W2 g2 hE2 hB2 hg2; simp [Act.eval, Act.put, Value.cells] at hB2; (try replace hE := hE.trans hE2); (try replace hF := hF.ext hE2); (try replace hM := hM.ext hE2); (try replace hK := hK.ext hE2); (try replace hB2 := hB2.ext hE2); (try replace hB3 := hB3.ext hE2); (try replace hb2_0 := Ext.cell_some hE2 hb2_0); (try replace hb2_1 := Ext.cell_some hE2 hb2_1); (try replace hb2_2 := Ext.cell_some hE2 hb2_2); (try replace hb3_0 := Ext.cell_some hE2 hb3_0); (try replace hb3_1 := Ext.cell_some hE2 hb3_1); have hb2_0 := hB2.cell 0; have hb2_1 := hB2.cell 1; have hb2_2 := hB2.cell 2; simp at hb2_0 hb2_1 hb2_2; clear hE2) | ((with_reducible refine q_box (d := some 3) ?_); intro W3 g3 hE3 hB3 hg3; simp [Act.eval, Act.put, Value.cells] at hB3; (try replace hE := hE.trans hE3); (try replace hF := hF.ext hE3); (try replace hM := hM.ext hE3); (try replace hK := hK.ext hE3); (try replace hB2 := hB2.ext hE3); (try replace hB3 := hB3.ext hE3); (try replace hb2_0 := Ext.cell_some hE3 hb2_0); (try replace hb2_1 := Ext.cell_some hE3 hb2_1); (try replace hb2_2 := Ext.cell_some hE3 hb2_2); (try replace hb3_0 := Ext.cell_some hE3 hb3_0); (try replace hb3_1 := Ext.cell_some hE3 hb3_1); have hb3_0 := hB3.cell 0; have hb3_1 := hB3.cell 1; simp at hb3_0 hb3_1; clear hE3))
    go_ret
    exact ⟨ret_i Hr.out.symm, hE⟩
end Go.Bp
end
section
/- Drawn regions that only read: steps of my own; structs compared. -/
set_option maxRecDepth 100000
namespace Go.Bp
open Go.RowKit Go.Proofs
section
variable {P : Program} {ops : Array Oper} {Q : Act → Prop} {a : Act} {w : World} {rest : List Oper}
variable {d : Option Tmp} {ty : TypeId} {pos : String} {after : Array Edge}
theorem qq_val {o : Oper} (hg : o.guard = none) {v : Value} (h : ∀ n, (execOp a.eval o).run P (w.drewN n) = .ok (.value v) (w.drewN n))
    (k : wpQuiet P ops (fun w' => ∃ n, w' = w.drewN n) Q rest (a.put o.dst v)) : wpQuiet P ops (fun w' => ∃ n, w' = w.drewN n) Q (o :: rest) a := by
  refine wpQuiet_step fun K hK => ?_
  simp only [Region.wanted, hg, if_true]
  refine ⟨v, ?_, hK _ k⟩
  rintro w' ⟨n, rfl⟩
  unfold Oper.quietAt
  rw [h n]
  exact ⟨rfl, rfl⟩
theorem qq_load {t : TypeId} {x : Operand} {p : Addr} {v : Value} (hl : ∀ W, Ext w W → (loadVar t p).run P W = .ok v W) (hx : a.eval x = .pointer (some p))
    (k : wpQuiet P ops (fun w' => ∃ n, w' = w.drewN n) Q rest (a.put d v)) : wpQuiet P ops (fun w' => ∃ n, w' = w.drewN n) Q (⟨d, .load t x, ty, pos, after, none⟩ :: rest) a :=
  qq_val rfl (fun n => by simp [execOp, Instr.loadAt, hx, Instr.sureAddr, hl _ ((Ext.refl w).drewN n)]) k
end
theorem eqg99 : Tryz.prog.eqGuardType Tryz.prog.depth 99 = false := by kernel_rfl
theorem sto99 : Tryz.prog.stoodInHeld 99 = false := by kernel_rfl
theorem und99 : Tryz.prog.underlying 99 = some (.struct (Tryz.prog.fieldsOf 99)) := by kernel_rfl
theorem neq_line (w : World) (x y : Operand) (a b c a' b' c' : Int) :
    (do eqGuard .neq 99 x y (.agg #[.int .i64 a, .int .i64 b, .int .i64 c]) (.agg #[.int .i64 a', .int .i64 b', .int .i64 c']); binOp .neq 99 (.agg #[.int .i64 a, .int .i64 b, .int .i64 c]) (.agg #[.int .i64 a', .int .i64 b', .int .i64 c']) : Sem Value).run Tryz.prog w =
      .ok (.bool (!(decide (a = a' ∧ b = b' ∧ c = c')))) w := by
  rw [Sem.run_bind, run_eqGuard_agg w _ _ _ _ _ _ eqg99, Result.andThen_ok, run_neq_struct, run_equalIn_struct w 9999 99 _ _ und99 sto99]
  have hf : (Tryz.prog.fieldsOf 99).toList.map (fun f => (f.name, f.type, f.offset)) = [("No", 3, 0), ("What", 3, 1), ("Sum", 3, 2)] := by kernel_rfl
  generalize (Tryz.prog.fieldsOf 99).toList = l at hf ⊢
  have hl : l.length = 3 := by have := congrArg List.length hf; simpa using this
  obtain ⟨f0, f1, f2, rfl⟩ : ∃ f0 f1 f2, l = [f0, f1, f2] := by
    rcases l with _ | ⟨f0, _ | ⟨f1, _ | ⟨f2, _ | ⟨f3, l⟩⟩⟩⟩ <;> simp at hl
    exact ⟨f0, f1, f2, rfl⟩
  simp only [List.map_cons, List.map_nil, List.cons.injEq, Prod.mk.injEq, and_true] at hf
  obtain ⟨⟨n0, t0, o0⟩, ⟨n1, t1, o1⟩, ⟨n2, t2, o2⟩⟩ := hf
  by_cases e0 : a = a' <;> by_cases e1 : b = b' <;> by_cases e2 : c = c' <;>
    simp [Op.eqFields, n0, n1, n2, t0, t1, t2, o0, o1, o2, part, isAgg, run_underlying Tryz.underlying3, run_equalIn_int w 9998 3 .i64 .i64 _ _ Tryz.underlying3, e0, e1, e2]
section
variable {ops : Array Oper} {Q : Act → Prop} {t : Act} {w : World} {rest : List Oper}
variable {d : Option Tmp} {ty ty' : TypeId} {pos : String} {after : Array Edge}
theorem qq_neqL {x y : Operand} {a b c a' b' c' : Int} {r : Bool} (hr : decide (a = a' ∧ b = b' ∧ c = c') = !r) (hx : t.eval x = .agg #[.int .i64 a, .int .i64 b, .int .i64 c]) (hy : t.eval y = .agg #[.int .i64 a', .int .i64 b', .int .i64 c'])
    (k : wpQuiet Tryz.prog ops (fun w' => ∃ n, w' = w.drewN n) Q rest (t.put d (.bool r))) : wpQuiet Tryz.prog ops (fun w' => ∃ n, w' = w.drewN n) Q (⟨d, .binOp .neq 99 x y ty', ty, pos, after, none⟩ :: rest) t := by
  refine qq_val rfl (fun n => ?_) k
  have h := neq_line (w.drewN n) x y a b c a' b' c'
  rw [hr, Bool.not_not] at h
  simp only [execOp, hx, hy]
  rw [Sem.run_bind, h]
  rfl
end
end Go.Bp
end
section
/- Plain Lean: lists compared, lines struck. -/
namespace Go.Bp
open Go.RowKit
theorem Line.ext' {x y : Line} (h : x.no = y.no ∧ x.what = y.what ∧ x.sum = y.sum) : x = y := by
  obtain ⟨a, b, c⟩ := x; obtain ⟨d, e, f⟩ := y; simp at h; simp [h]
def sheetsEq (a b : Sheet) : Bool := decide (a.lines = b.lines) && decide (a.kept.length = b.kept.length) && (List.range a.kept.length).all fun i => match a.kept[i]?, b.kept[i]? with | some x, some y => decide (x.no = y.no ∧ x.what = y.what ∧ x.sum = y.sum) | _, _ => false
theorem sheetsEq_iff (a b : Sheet) : sheetsEq a b = true ↔ a = b := by
  unfold sheetsEq
  constructor
  · intro h
    simp only [Bool.and_eq_true, decide_eq_true_eq, List.all_eq_true, List.mem_range] at h
    obtain ⟨⟨h1, h2⟩, h3⟩ := h
    obtain ⟨la, ka⟩ := a
    obtain ⟨lb, kb⟩ := b
    simp only at h1 h2 h3
    subst h1
    congr 1
    apply List.ext_getElem h2
    intro i hi hi'
    have := h3 i hi
    simp only [hi, hi', List.getElem?_eq_getElem, decide_eq_true_eq] at this
    exact Line.ext' this
  · rintro rfl
    simp only [decide_true, Bool.true_and, List.all_eq_true, List.mem_range]
    intro i hi
    simp [hi]
theorem sheetsEq_len {a b : Sheet} (h : a.lines ≠ b.lines ∨ a.kept.length ≠ b.kept.length) : sheetsEq a b = false := by
  unfold sheetsEq
  rcases h with h | h <;> simp [h]
theorem sheetsEq_no {a b : Sheet} {k : Nat} (hk : k < a.kept.length) (hk' : k < b.kept.length) (h : ¬ (a.kept[k].no = b.kept[k].no ∧ a.kept[k].what = b.kept[k].what ∧ a.kept[k].sum = b.kept[k].sum)) : sheetsEq a b = false := by
  cases hq : sheetsEq a b with
  | false => rfl
  | true => rw [sheetsEq_iff] at hq; subst hq; exact absurd ⟨rfl, rfl, rfl⟩ h
theorem sheetsEq_yes {a b : Sheet} (h1 : a.lines = b.lines) (h2 : a.kept.length = b.kept.length) (h3 : ∀ i (hi : i < a.kept.length) (hi' : i < b.kept.length), a.kept[i].no = b.kept[i].no ∧ a.kept[i].what = b.kept[i].what ∧ a.kept[i].sum = b.kept[i].sum) : sheetsEq a b = true := by
  rw [sheetsEq_iff]
  obtain ⟨la, ka⟩ := a
  obtain ⟨lb, kb⟩ := b
  simp only at h1 h2 h3
  subst h1
  congr 1
  exact List.ext_getElem h2 fun i hi hi' => Line.ext' (h3 i hi hi')
/-- The lines that stay, from number k + 1 on. -/
def leftTo (_c : Code) (t lines : List Int) (k : Nat) : List Int := ((List.range k).filter fun i : Nat => !(hasB lines ((i : Int) + 1))).map fun i => t.getD i 0
def faultsTo (c : Code) (t lines : List Int) (k : Nat) : Bool := (List.range k).all fun i : Nat => !(hasB lines ((i : Int) + 1)) || decide (t.getD i 0 < c.faults.length)
def without (c : Code) (t lines : List Int) : List Int × Bool := (leftTo c t lines t.length, faultsTo c t lines t.length)
theorem leftTo_succ (c : Code) (t lines : List Int) {k : Nat} (hk : k < t.length) : leftTo c t lines (k + 1) = if hasB lines ((k : Int) + 1) = true then leftTo c t lines k else leftTo c t lines k ++ [t[k]] := by
  unfold leftTo
  rw [List.range_succ, List.filter_append, List.map_append]
  by_cases h : hasB lines ((k : Int) + 1) = true <;> simp [h, hk]
theorem faultsTo_succ (c : Code) (t lines : List Int) {k : Nat} (hk : k < t.length) : faultsTo c t lines (k + 1) = (faultsTo c t lines k && (!(hasB lines ((k : Int) + 1)) || decide (t[k] < c.faults.length))) := by
  unfold faultsTo
  rw [List.range_succ, List.all_append]
  simp [hk]
theorem leftTo_len (c : Code) (t lines : List Int) (k : Nat) : (leftTo c t lines k).length ≤ k := by
  unfold leftTo
  rw [List.length_map]
  have := List.length_filter_le (fun i : Nat => !(hasB lines ((i : Int) + 1))) (List.range k)
  simpa using this
/-- Do two tests have the same on some lines? -/
def sameAt (a b : List Int) (n : Int) : Bool := decide (a.getD (n - 1).toNat 0 = b.getD (n - 1).toNat 0)
def same (a b lines : List Int) : Bool := lines.all (sameAt a b)
theorem same_no {a b lines : List Int} {k : Nat} (hk : k < lines.length) (h : sameAt a b lines[k] = false) : same a b lines = false := by
  unfold same; rw [List.all_eq_false]; exact ⟨_, List.getElem_mem hk, by simp [h]⟩
theorem same_yes {a b lines : List Int} (h : ∀ x ∈ lines, sameAt a b x = true) : same a b lines = true := by
  unfold same; rw [List.all_eq_true]; exact h
theorem sameAt_eq {a b : List Int} {n : Nat} {x : Int} (hx : x = n) (h1 : 1 ≤ n) (ha : n - 1 < a.length) (hb : n - 1 < b.length) : sameAt a b x = decide (a[n - 1] = b[n - 1]) := by
  subst hx
  have : ((n : Int) - 1).toNat = n - 1 := by omega
  unfold sameAt; rw [this]; simp [List.getD, ha, hb]
theorem all_take_snoc {α : Type} {p : α → Prop} {l : List α} {k : Nat} (hk : k < l.length) (hb : ∀ x ∈ l.take k, p x) (hp : p l[k]) : ∀ x ∈ l.take (k + 1), p x := by
  intro x hx
  rw [take_snoc _ hk] at hx
  rcases List.mem_append.1 hx with h | h
  · exact hb x h
  · simp at h; rw [h]; exact hp
end Go.Bp
end
section
set_option maxRecDepth 100000
set_option linter.unusedSimpArgs false
set_option linter.unusedVariables false
namespace Go.Bp
open Go.RowKit Go.Proofs
theorem ld_l' {w : World} {ad : Addr} {xs : List Line} {k : Nat} (h : Cells w ad (encL xs)) (hk : k < xs.length) : ∀ W, Ext w W → (loadVar 99 (ad.add (k * 3))).run Tryz.prog W = .ok (.agg #[.int .i64 xs[k].no, .int .i64 xs[k].what, .int .i64 xs[k].sum]) W :=
  fun _ e => ld_l (h.ext e) hk
set_option maxHeartbeats 1000000 in
theorem Sheets_any (av bv : Value) (a b : Sheet) (w : World) (ha : SheetV w av a) (hb : SheetV w bv b) :
    Calls Tryz.prog 27 #[av, bv] w fun e w' => e = .returned (.bool (sheetsEq a b)) ∧ Ext w w' := by
  obtain ⟨kv, rfl, ⟨A, cp, rfl, h1, h2, h3, h4⟩⟩ := ha
  obtain ⟨kv', rfl, ⟨A', cp', rfl, h1', h2', h3', h4'⟩⟩ := hb
  unfold maxLen at h2 h2'
  clear h3 h3'
  have hE := Ext.refl w
  by_cases q1 : a.lines = b.lines
  · have d1 : (a.lines != b.lines) = false := by simp [q1]
    by_cases q2 : a.kept.length = b.kept.length
    · have d2 : ((a.kept.length : Int) != (b.kept.length : Int)) = false := by simp [q2]
      have Q1 := Lib.hid q1
      have Q2 := Lib.hid q2
      have q2' : b.kept.length ≤ a.kept.length := by omega
      have q2'' : a.kept.length ≤ b.kept.length := by omega
      clear q1 q2
      go_enter Tryz.func27, Tryz.ntmps27
      go_wp2_with (first | ((with_reducible refine q_box (d := some 2) ?_); intro W2 g2 hE2 hB2 hg2; simp [Act.eval, Act.put, Value.cells] at hB2; (try replace hE := hE.trans hE2); (try replace hB2 := hB2.ext hE2); (try replace hB3 := hB3.ext hE2); (try replace hb2_0 := Ext.cell_some hE2 hb2_0); (try replace hb2_1 := Ext.cell_some hE2 hb2_1); (try replace hb3_0 := Ext.cell_some hE2 hb3_0); (try replace hb3_1 := Ext.cell_some hE2 hb3_1); have hb2_0 := hB2.cell 0; have hb2_1 := hB2.cell 1; simp at hb2_0 hb2_1; clear hE2) | ((with_reducible refine q_box (d := some 3) ?_); intro W3 g3 hE3 hB3 hg3; simp [Act.eval, Act.put, Value.cells] at hB3; (try replace hE := hE.trans hE3); (try replace hB2 := hB2.ext hE3); (try replace hB3 := hB3.ext hE3); (try replace hb2_0 := Ext.cell_some hE3 hb2_0); (try replace hb2_1 := Ext.cell_some hE3 hb2_1); (try replace hb3_0 := Ext.cell_some hE3 hb3_0); (try replace hb3_1 := Ext.cell_some hE3 hb3_1); have hb3_0 := hB3.cell 0; have hb3_1 := hB3.cell 1; simp at hb3_0 hb3_1; clear hE3))
      go_loopw [5] (fun i wr => Ext W3 wr ∧ ∃ k : Nat, k ≤ a.kept.length ∧ i = .int .i64 k ∧ ∀ j (hj : j < a.kept.length) (hj' : j < b.kept.length), j < k → a.kept[j].no = b.kept[j].no ∧ a.kept[j].what = b.kept[j].what ∧ a.kept[j].sum = b.kept[j].sum) (fun i _ => a.kept.length - (intOf i).toNat)
      case atStart => exact ⟨Ext.refl _, 0, by omega, rfl, by omega⟩
      case round =>
        obtain ⟨hEr, k, hk, rfl, hfi⟩ := hrel
        (try replace hE := hE.trans hEr); (try replace hB2 := hB2.ext hEr); (try replace hB3 := hB3.ext hEr); (try replace hb2_0 := Ext.cell_some hEr hb2_0); (try replace hb2_1 := Ext.cell_some hEr hb2_1); (try replace hb3_0 := Ext.cell_some hEr hb3_0); (try replace hb3_1 := Ext.cell_some hEr hb3_1)
        have Hfi := Lib.hid hfi
        clear hfi
        by_cases hlt : k < a.kept.length
        · obtain ⟨ad, rfl, hc⟩ := h4 (by omega)
          obtain ⟨ad', rfl, hc'⟩ := h4' (by omega)
          replace hc := hc.ext hE
          replace hc' := hc'.ext hE
          have hlt' : k < b.kept.length := by omega
          clear h4 h4'
          by_cases he : a.kept[k].no = b.kept[k].no ∧ a.kept[k].what = b.kept[k].what ∧ a.kept[k].sum = b.kept[k].sum
          · have He := Lib.hid he
            have dd : decide (a.kept[k].no = b.kept[k].no ∧ a.kept[k].what = b.kept[k].what ∧ a.kept[k].sum = b.kept[k].sum) = !false := by simpa using he
            have Hd := Lib.hid dd
            clear he dd
            go_wp2
            refine wp_region_quiet_lit (by kernel_rfl) (by kernel_rfl) ?_
            repeat (any_goals (first | ((with_reducible refine qq_load (d := some 31) (hl := (ld_l' hc hlt)) ?_ ?_); rfl) | ((with_reducible refine qq_load (d := some 36) (hl := (ld_l' hc' hlt')) ?_ ?_); rfl) | ((with_reducible refine qq_neqL (d := some 37) (r := false) Hd.out ?_ ?_ ?_); rfl; rfl) | go_big_quiet_step (fail) | quiet_step (fail)))
            refine wpQuiet_nil ?_
            intro _ hw'
            obtain ⟨nq, hw''⟩ := hw'
            subst hw''
            go_wp2
            go_roundw
            case rel => exact ⟨hEr.drewN _, k + 1, by omega, by go_num, fun j hj hj' hjk => by by_cases e : j = k; · subst e; exact He.out
                                                                                               · exact Hfi.out j hj hj' (by omega)⟩
            case measure => simp [intOf]; omega
          · have dd : decide (a.kept[k].no = b.kept[k].no ∧ a.kept[k].what = b.kept[k].what ∧ a.kept[k].sum = b.kept[k].sum) = !true := by simpa using he
            have Hd := Lib.hid dd
            have Hf := Lib.hid (sheetsEq_no hlt hlt' he)
            clear he dd
            go_wp2
            refine wp_region_quiet_lit (by kernel_rfl) (by kernel_rfl) ?_
            repeat (any_goals (first | ((with_reducible refine qq_load (d := some 31) (hl := (ld_l' hc hlt)) ?_ ?_); rfl) | ((with_reducible refine qq_load (d := some 36) (hl := (ld_l' hc' hlt')) ?_ ?_); rfl) | ((with_reducible refine qq_neqL (d := some 37) (r := true) Hd.out ?_ ?_ ?_); rfl; rfl) | go_big_quiet_step (fail) | quiet_step (fail)))
            refine wpQuiet_nil ?_
            intro _ hw'
            obtain ⟨nq, hw''⟩ := hw'
            subst hw''
            go_wp2
            go_ret
            exact ⟨ret_b Hf.out.symm, hE.drewN _⟩
        · obtain rfl : k = a.kept.length := by omega
          have Hf := Lib.hid (sheetsEq_yes Q1.out Q2.out (fun j hj hj' => Hfi.out j hj hj' hj))
          clear h4 h4'
          go_wp2
          go_ret
          exact ⟨ret_b Hf.out.symm, hE⟩
    · have d2 : ((a.kept.length : Int) != (b.kept.length : Int)) = true := by rw [bne_iff_ne]; omega
      have Hf := Lib.hid (sheetsEq_len (.inr q2))
      clear q1 q2
      go_enter Tryz.func27, Tryz.ntmps27
      go_wp2_with (first | ((with_reducible refine q_box (d := some 2) ?_); intro W2 g2 hE2 hB2 hg2; simp [Act.eval, Act.put, Value.cells] at hB2; (try replace hE := hE.trans hE2); (try replace hEr := hEr.trans hE2); (try replace hB2 := hB2.ext hE2); (try replace hB3 := hB3.ext hE2); (try replace hb2_0 := Ext.cell_some hE2 hb2_0); (try replace hb2_1 := Ext.cell_some hE2 hb2_1); (try replace hb3_0 := Ext.cell_some hE2 hb3_0); (try replace hb3_1 := Ext.cell_some hE2 hb3_1); have hb2_0 := hB2.cell 0; have hb2_1 := hB2.cell 1; simp at hb2_0 hb2_1; clear hE2) | ((with_reducible refine q_box (d := some 3) ?_); intro W3 g3 hE3 hB3 hg3; simp [Act.eval, Act.put, Value.cells] at hB3; (try replace hE := hE.trans hE3); (try replace hEr := hEr.trans hE3); (try replace hB2 := hB2.ext hE3); (try replace hB3 := hB3.ext hE3); (try replace hb2_0 := Ext.cell_some hE3 hb2_0); (try replace hb2_1 := Ext.cell_some hE3 hb2_1); (try replace hb3_0 := Ext.cell_some hE3 hb3_0); (try replace hb3_1 := Ext.cell_some hE3 hb3_1); have hb3_0 := hB3.cell 0; have hb3_1 := hB3.cell 1; simp at hb3_0 hb3_1; clear hE3))
      go_ret
      exact ⟨ret_b Hf.out.symm, hE⟩
  · have d1 : (a.lines != b.lines) = true := by rw [bne_iff_ne]; exact q1
    have Hf := Lib.hid (sheetsEq_len (.inl q1))
    clear q1
    go_enter Tryz.func27, Tryz.ntmps27
    go_wp2_with (first | ((with_reducible refine q_box (d := some 2) ?_); intro W2 g2 hE2 hB2 hg2; simp [Act.eval, Act.put, Value.cells] at hB2; (try replace hE := hE.trans hE2); (try replace hEr := hEr.trans hE2); (try replace hB2 := hB2.ext hE2); (try replace hB3 := hB3.ext hE2); (try replace hb2_0 := Ext.cell_some hE2 hb2_0); (try replace hb2_1 := Ext.cell_some hE2 hb2_1); (try replace hb3_0 := Ext.cell_some hE2 hb3_0); (try replace hb3_1 := Ext.cell_some hE2 hb3_1); have hb2_0 := hB2.cell 0; have hb2_1 := hB2.cell 1; simp at hb2_0 hb2_1; clear hE2) | ((with_reducible refine q_box (d := some 3) ?_); intro W3 g3 hE3 hB3 hg3; simp [Act.eval, Act.put, Value.cells] at hB3; (try replace hE := hE.trans hE3); (try replace hEr := hEr.trans hE3); (try replace hB2 := hB2.ext hE3); (try replace hB3 := hB3.ext hE3); (try replace hb2_0 := Ext.cell_some hE3 hb2_0); (try replace hb2_1 := Ext.cell_some hE3 hb2_1); (try replace hb3_0 := Ext.cell_some hE3 hb3_0); (try replace hb3_1 := Ext.cell_some hE3 hb3_1); have hb3_0 := hB3.cell 0; have hb3_1 := hB3.cell 1; simp at hb3_0 hb3_1; clear hE3))
    go_ret
    exact ⟨ret_b Hf.out.symm, hE⟩
end Go.Bp
end
section
set_option maxRecDepth 100000
set_option linter.unusedSimpArgs false
set_option linter.unusedVariables false
namespace Go.Bp
open Go.RowKit Go.Proofs
set_option maxHeartbeats 1000000 in
theorem Same_any (av bv lv : Value) (a b l : List Int) (w : World) (ha : Ints w av a) (hb : Ints w bv b) (hl : Ints w lv l) (hn : ∀ n ∈ l, 1 ≤ n ∧ n ≤ a.length ∧ n ≤ b.length) :
    Calls Tryz.prog 111 #[av, bv, lv] w fun e w' => e = .returned (.bool (same a b l)) ∧ Ext w w' := by
  obtain ⟨A, cp, rfl, h1, h2, h3, h4⟩ := ha
  obtain ⟨A', cp', rfl, h1', h2', h3', h4'⟩ := hb
  obtain ⟨A2, cp2, rfl, h12, h22, h32, h42⟩ := hl
  unfold maxLen at h2 h2' h22
  clear h3 h3' h32
  have hE := Ext.refl w
  have Hn := Lib.hid hn
  clear hn
  go_enter Tryz.func111, Tryz.ntmps111
  go_wp2
  go_loopw [7] (fun i wr => Ext w wr ∧ ∃ k : Nat, k ≤ l.length ∧ i = .int .i64 k ∧ ∀ x ∈ l.take k, sameAt a b x = true) (fun i _ => l.length - (intOf i).toNat)
  case atStart => exact ⟨Ext.refl _, 0, by omega, rfl, by simp⟩
  case round =>
    obtain ⟨hEr, k, hk, rfl, hfi⟩ := hrel
    (try replace hE := hE.trans hEr)
    have Hfi := Lib.hid hfi
    clear hfi
    by_cases hlt : k < l.length
    · obtain ⟨hn1, hn2, hn3⟩ := Hn.out _ (List.getElem_mem hlt)
      obtain ⟨ad, rfl, hc⟩ := h4 (by omega)
      obtain ⟨ad', rfl, hc'⟩ := h4' (by omega)
      obtain ⟨ad2, rfl, hc2⟩ := h42 (by omega)
      replace hc := hc.ext hE
      replace hc' := hc'.ext hE
      replace hc2 := hc2.ext hE
      clear h4 h4' h42
      obtain ⟨n, hn⟩ := Int.eq_ofNat_of_zero_le (a := l[k]) (by omega)
      have e0 := hc2.i hlt
      have hna : n - 1 < a.length := by omega
      have hnb : n - 1 < b.length := by omega
      have e1 := hc.i hna
      have e2 := hc'.i hnb
      have hsa := sameAt_eq (a := a) (b := b) hn (by omega) hna hnb
      have Hsa := Lib.hid hsa
      rw [hn] at e0 hn1 hn2 hn3
      have z1 : IntKind.i64.wrap ((n : Int) - 1) = (n : Int) - 1 := IntWalk.i64_in _ (by omega)
      have z3 : (n : Int) - 1 < (a.length : Int) := by omega
      have z3' : (n : Int) - 1 < (b.length : Int) := by omega
      have z4 : ((n : Int) - 1).toNat = n - 1 := by omega
      clear hn hsa
      by_cases he : a[n - 1] = b[n - 1]
      · have q : (a[n - 1] != b[n - 1]) = false := by simp [he]
        have He := Lib.hid he
        clear he
        go_wp2
        refine wp_region_quiet_lit (by kernel_rfl) (by kernel_rfl) ?_
        repeat (any_goals (first | go_big_quiet_step (fail) | quiet_step (fail)))
        refine wpQuiet_nil ?_
        intro _ hw'
        obtain ⟨nq, hw''⟩ := hw'
        subst hw''
        go_wp2
        go_roundw
        case rel => exact ⟨hEr.drewN _, k + 1, by omega, by go_num, all_take_snoc hlt Hfi.out (by rw [Hsa.out]; simp [He.out])⟩
        case measure => simp [intOf]; omega
      · have q : (a[n - 1] != b[n - 1]) = true := by simp [he]
        have Hf := Lib.hid (same_no hlt (by rw [Hsa.out]; simp [he]))
        clear he
        go_wp2
        refine wp_region_quiet_lit (by kernel_rfl) (by kernel_rfl) ?_
        repeat (any_goals (first | go_big_quiet_step (fail) | quiet_step (fail)))
        refine wpQuiet_nil ?_
        intro _ hw'
        obtain ⟨nq, hw''⟩ := hw'
        subst hw''
        go_wp2
        go_ret
        exact ⟨ret_b Hf.out.symm, hE.drewN _⟩
    · obtain rfl : k = l.length := by omega
      have Hf := Lib.hid (same_yes (fun x hx => Hfi.out x (by rwa [List.take_length])))
      clear h4 h4' h42
      go_wp2
      go_ret
      exact ⟨ret_b Hf.out.symm, hE⟩
/-- A slice and a bool. -/
def RetWO (w : World) (xs : List Int) (b : Bool) (e : Ending) (w' : World) : Prop := ∃ v, e = .returned (.tuple #[v, .bool b]) ∧ OwnI w.heap.size w' v xs ∧ Ext w w'
set_option maxHeartbeats 1000000 in
theorem Without_any (cv tv lv : Value) (c : Code) (t l : List Int) (w : World) (h : CodeV w cv c) (ht : Ints w tv t) (hl : Ints w lv l) (hsz : t.length ≤ 1000000) :
    Calls Tryz.prog 50 #[cv, tv, lv] w (RetWO w (without c t l).1 (without c t l).2) := by
  obtain ⟨fv, mv, rfl, ⟨A2, cp2, rfl, h12, h22, h32, h42⟩, hM, hW⟩ := h
  obtain ⟨A, cp, rfl, h1, h2, h3, h4⟩ := ht
  unfold maxLen at h2 h22
  clear h3 h32 h42
  have hE := Ext.refl w
  go_enter Tryz.func50, Tryz.ntmps50
  go_wp2_with (first | ((with_reducible refine q_box (d := some 3) ?_); intro W3 g3 hE3 hB3 hg3; simp [Act.eval, Act.put, Value.cells] at hB3; (try replace hE := hE.trans hE3); (try replace hl := hl.ext hE3); (try replace hB3 := hB3.ext hE3); (try replace hb3_0 := Ext.cell_some hE3 hb3_0); (try replace hb3_1 := Ext.cell_some hE3 hb3_1); (try replace hb3_2 := Ext.cell_some hE3 hb3_2); have hb3_0 := hB3.cell 0; have hb3_1 := hB3.cell 1; have hb3_2 := hB3.cell 2; simp at hb3_0 hb3_1 hb3_2; clear hE3))
  have hB0 := hE.size
  have k0 := hb3_0
  have kl := hl
  go_loopw [8, 9, 10] (fun v b i wr => Ext W3 wr ∧ ∃ k : Nat, k ≤ t.length ∧ i = .int .i64 k ∧ b = .bool (faultsTo c t l k) ∧ OwnI W3.heap.size wr v (leftTo c t l k)) (fun _ _ i _ => t.length - (intOf i).toNat)
  case atStart => exact ⟨Ext.refl _, 0, by omega, rfl, rfl, OwnI.nil _ _⟩
  case round =>
    obtain ⟨hEr, k, hk, rfl, rfl, hO⟩ := hrel
    replace k0 := Ext.cell_some hEr k0
    replace kl := kl.ext hEr
    clear hb3_0 hb3_1 hb3_2 hB3 hl
    have hlen := leftTo_len c t l k
    have Hlen := Lib.hid hlen
    clear hlen
    by_cases hlt : k < t.length
    · obtain ⟨ad, rfl, hc⟩ := h4 (by omega)
      have e1 := ((hc.ext hE).ext hEr).i hlt
      have hs := leftTo_succ c t l hlt
      have hf := faultsTo_succ c t l hlt
      clear h4 hc
      by_cases hb : hasB l ((k : Int) + 1) = true
      · rw [if_pos hb] at hs
        rw [hb, Bool.not_true, Bool.false_or] at hf
        have Hs := Lib.hid hs
        have Hf := Lib.hid hf
        clear hs hf
        by_cases hfa : faultsTo c t l k = true
        · have Hfa := Lib.hid hfa
          go_wp2_with (go_at_call 49; refine (Has_any _ _ _ _ kl).mono ?_; rintro e w' ⟨rfl, rfl⟩)
          refine wp_region_quiet_lit (by kernel_rfl) (by kernel_rfl) ?_
          repeat (any_goals (first | go_big_quiet_step (fail) | quiet_step (fail)))
          refine wpQuiet_nil ?_
          intro _ hw'
          obtain ⟨nq, hw''⟩ := hw'
          subst hw''
          go_wp2
          go_roundw
          case rel => exact ⟨hEr.drewN _, k + 1, by omega, by go_num, by rw [Hf.out, Hfa.out]; rfl, by rw [Hs.out]; exact hO.ext ((Ext.refl _).drewN _)⟩
          case measure => simp [intOf]; omega
        · simp only [Bool.not_eq_true] at hfa
          have Hfa := Lib.hid hfa
          go_wp2_with (go_at_call 49; refine (Has_any _ _ _ _ kl).mono ?_; rintro e w' ⟨rfl, rfl⟩)
          refine wp_region_quiet_lit (by kernel_rfl) (by kernel_rfl) ?_
          repeat (any_goals (first | go_big_quiet_step (fail) | quiet_step (fail)))
          refine wpQuiet_nil ?_
          intro _ hw'
          obtain ⟨nq, hw''⟩ := hw'
          subst hw''
          go_wp2
          go_roundw
          case rel => exact ⟨hEr.drewN _, k + 1, by omega, by go_num, by rw [Hf.out, Hfa.out]; rfl, by rw [Hs.out]; exact hO.ext ((Ext.refl _).drewN _)⟩
          case measure => simp [intOf]; omega
      · rw [if_neg hb] at hs
        simp only [Bool.not_eq_true] at hb
        rw [hb, Bool.not_false, Bool.true_or, Bool.and_true] at hf
        have Hs := Lib.hid hs
        have Hf := Lib.hid hf
        clear hs hf
        go_wp2_with (first | (go_at_call 49; refine (Has_any _ _ _ _ kl).mono ?_; rintro e w' ⟨rfl, rfl⟩) | ((with_reducible refine q_bsI (d := some 37) (n := t[k]) ?_ ?_); rfl; intro W12 g12 hE12 hB12 hg12; replace hEr := hEr.trans hE12; replace hO := hO.ext hE12) | (refine q_appI (d := some 38) rfl hO rfl hB12 (by have := Hlen.out; omega) (by have := hEr.size; omega) ?_; intro v' W13 hO' hmono hgr; replace hEr := hmono _ hEr))
        go_roundw
        case rel => exact ⟨hEr, k + 1, by omega, by go_num, by rw [Hf.out], by rw [Hs.out]; exact hO'⟩
        case measure => simp [intOf]; omega
    · obtain rfl : k = t.length := by omega
      clear h4
      go_wp2
      go_ret2
      exact ⟨_, rfl, hO.base hB0, hE.trans hEr⟩
end Go.Bp
end
section
/- Slices of slices of ints. -/
set_option maxRecDepth 100000
namespace Go.Bp
open Go.RowKit Go.Proofs
/-- Ints whose memory is a row of ints. -/
def IntB (w : World) (v : Value) (xs : List Int) : Prop := Ints w v xs ∧ ∀ ad n c, v = .slice (some ad) n c → 0 < n → ∃ cur fr, w.heap[ad.block]? = some (.cells cur 3 fr)
theorem IntB.ints {w : World} {v : Value} {xs : List Int} (h : IntB w v xs) : Ints w v xs := h.1
theorem IntB.ext {w w' : World} {v : Value} {xs : List Int} (h : IntB w v xs) (e : Ext w w') : IntB w' v xs :=
  ⟨h.1.ext e, fun ad n c hv hn => let ⟨cur, fr, hc⟩ := h.2 ad n c hv hn; ⟨cur, fr, e.heap_some hc⟩⟩
theorem IntB.d {w : World} {v : Value} {xs : List Int} (h : IntB w v xs) : IntB w.drew v xs := h
theorem IntB.of_own {B : Nat} {w : World} {v : Value} {xs : List Int} (h : OwnI B w v xs) : IntB w v xs := by
  refine ⟨h.ints, fun ad n c hv hn => ?_⟩
  rcases h.2 with ⟨h2, h3⟩ | ⟨g, cap, cur, h2, _, h4, _⟩
  · rw [h2] at hv; injection hv with e1; cases e1
  · rw [h2] at hv; injection hv with e1; injection e1 with e1; subst e1; exact ⟨cur, _, h4⟩
/-- A write into a row of another type leaves ints as they are. -/
theorem IntB.grown {w W : World} {v : Value} {xs : List Int} {row : Option Nat} (h : IntB w v xs) (hg : w.grownBy W row) (hr : ∀ g, row = some g → ∃ cur t fr, w.heap[g]? = some (.cells cur t fr) ∧ t ≠ 3) : IntB W v xs := by
  obtain ⟨⟨A, c, hv, h1, h2, h3, h4⟩, h5⟩ := h
  have hb : ∀ ad, A = some ad → 0 < xs.length → W.heap[ad.block]? = w.heap[ad.block]? := by
    intro ad hA hn
    obtain ⟨cur, fr, hc⟩ := h5 ad _ c (by rw [hv, hA]) hn
    refine hg.block _ (Array.getElem?_eq_some_iff.1 hc).1 fun e => ?_
    obtain ⟨cur', t, fr', hc', ht⟩ := hr _ e.symm
    rw [hc] at hc'; injection hc' with hc'; injection hc' with _ e2; exact ht e2.symm
  refine ⟨⟨A, c, hv, h1, h2, h3, fun hn => ?_⟩, fun ad n c' hv' hn => ?_⟩
  · obtain ⟨ad, hA, hc⟩ := h4 hn
    refine ⟨ad, hA, fun j u hu => ?_⟩
    rw [World.cell?_of_block (w := w) (by rw [block_of_add]; exact hb ad hA hn)]
    exact hc j u hu
  · obtain ⟨cur, fr, hc⟩ := h5 ad n c' hv' hn
    rw [hv] at hv'; injection hv' with e1 e2 e3
    subst e2
    exact ⟨cur, fr, by rw [hb ad e1 hn]; exact hc⟩
/-- The values vals are slices that read as xss. -/
def Vals (w : World) (vals : List Value) (xss : List (List Int)) : Prop := vals.length = xss.length ∧ ∀ (i : Nat) (v : Value) (xs : List Int), vals[i]? = some v → xss[i]? = some xs → IntB w v xs
theorem Vals.ext {w w' : World} {vals : List Value} {xss : List (List Int)} (h : Vals w vals xss) (e : Ext w w') : Vals w' vals xss := ⟨h.1, fun i v xs h1 h2 => (h.2 i v xs h1 h2).ext e⟩
theorem Vals.snoc {w : World} {vals : List Value} {xss : List (List Int)} {v : Value} {xs : List Int} (h : Vals w vals xss) (hv : IntB w v xs) : Vals w (vals ++ [v]) (xss ++ [xs]) := by
  refine ⟨by simp [h.1], fun i u ys h1 h2 => ?_⟩
  rcases Nat.lt_or_ge i vals.length with hi | hi
  · rw [List.getElem?_append_left hi] at h1
    rw [List.getElem?_append_left (by rw [← h.1]; exact hi)] at h2
    exact h.2 i u ys h1 h2
  · rw [List.getElem?_append_right hi] at h1
    rw [List.getElem?_append_right (by rw [← h.1]; exact hi), ← h.1] at h2
    cases hj : i - vals.length with
    | zero => rw [hj] at h1 h2; simp at h1 h2; subst h1 h2; exact hv
    | succ j => rw [hj] at h1; simp at h1
def IntSS (w : World) (v : Value) (xss : List (List Int)) : Prop := ∃ vals, Sl w 1 v xss.length vals ∧ Vals w vals xss
theorem IntSS.ext {w w' : World} {v : Value} {xss : List (List Int)} (h : IntSS w v xss) (e : Ext w w') : IntSS w' v xss := let ⟨vals, h1, h2⟩ := h; ⟨vals, h1.ext e, h2.ext e⟩
theorem IntSS.d {w : World} {v : Value} {xss : List (List Int)} (h : IntSS w v xss) : IntSS w.drew v xss := h.ext (Ext.todrew (Ext.refl w))
def OwnSS (B : Nat) (w : World) (v : Value) (xss : List (List Int)) : Prop := ∃ vals, w.ownsRow B 26 1 v xss.length vals ∧ Vals w vals xss
theorem OwnSS.ext {B : Nat} {w w' : World} {v : Value} {xss : List (List Int)} (h : OwnSS B w v xss) (e : Ext w w') : OwnSS B w' v xss := let ⟨vals, h1, h2⟩ := h; ⟨vals, own_ext h1 e, h2.ext e⟩
theorem OwnSS.base {w : World} {B B' : Nat} {v : Value} {xss : List (List Int)} (h : OwnSS B w v xss) (hB : B' ≤ B) : OwnSS B' w v xss := let ⟨vals, h1, h2⟩ := h; ⟨vals, own_base h1 hB, h2⟩
theorem OwnSS.d {B : Nat} {w : World} {v : Value} {xss : List (List Int)} (h : OwnSS B w v xss) : OwnSS B w.drew v xss := h.ext (Ext.todrew (Ext.refl w))
theorem OwnSS.ss {B : Nat} {w : World} {v : Value} {xss : List (List Int)} (h : OwnSS B w v xss) : IntSS w v xss := let ⟨vals, h1, h2⟩ := h; ⟨vals, Sl.of_own h1, h2⟩
theorem OwnSS.nil (B : Nat) (w : World) : OwnSS B w (.slice none 0 0) [] := ⟨[], World.ownsRow_nil w B 26 1, rfl, by simp⟩
/-- An element of a slice of slices. -/
theorem IntSS.at_ {w : World} {A : Option Addr} {n c : Nat} {xss : List (List Int)} (h : IntSS w (.slice A n c) xss) {k : Nat} (hk : k < xss.length) : ∃ ad v, A = some ad ∧ w.cell? (ad.add k) = some v ∧ IntB w v xss[k] := by
  obtain ⟨vals, ⟨A', c', hv, h1, h2, h3, h4⟩, h5, h6⟩ := h
  injection hv with e1 e2 e3
  subst e1 e2
  obtain ⟨ad, hA, hc⟩ := h4 (by omega)
  have hkv : k < vals.length := by omega
  exact ⟨ad, vals[k], hA, hc k _ (List.getElem?_eq_getElem hkv), h6 k _ _ (List.getElem?_eq_getElem hkv) (List.getElem?_eq_getElem hk)⟩
theorem IntSS.len {w : World} {v : Value} {xss : List (List Int)} (h : IntSS w v xss) : ∃ A c, v = .slice A xss.length c ∧ xss.length ≤ c ∧ c ≤ maxLen := by
  obtain ⟨vals, ⟨A, c, hv, h1, h2, _⟩, _⟩ := h
  exact ⟨A, c, hv, h1, h2⟩
theorem Vals.grown {w W : World} {B n : Nat} {v : Value} {vals own : List Value} {xss : List (List Int)} (h : Vals w vals xss) (hown : w.ownsRow B 26 1 v n own) (hg : w.grownBy W v.ownBlock) : Vals W vals xss :=
  ⟨h.1, fun i u xs h1 h2 => (h.2 i u xs h1 h2).grown hg fun g hgr => by
    rcases hown.2 with ⟨rfl, _⟩ | ⟨g', cap, cur, rfl, _, h4, _⟩
    · simp [Value.ownBlock] at hgr
    · have : g' = g := by simpa [Value.ownBlock] using hgr
      subst this
      exact ⟨cur, 26, _, h4, by decide⟩⟩
theorem IntB.grownSS {w W : World} {B n : Nat} {v u : Value} {own : List Value} {xs : List Int} (h : IntB w u xs) (hown : w.ownsRow B 26 1 v n own) (hg : w.grownBy W v.ownBlock) : IntB W u xs :=
  h.grown hg fun g hgr => by
    rcases hown.2 with ⟨rfl, _⟩ | ⟨g', cap, cur, rfl, _, h4, _⟩
    · simp [Value.ownBlock] at hgr
    · have : g' = g := by simpa [Value.ownBlock] using hgr
      subst this
      exact ⟨cur, 26, _, h4, by decide⟩
/-- Two slices of the call's own that lie in different rows. -/
def Apart (w : World) (v u : Value) : Prop := (u.ownBlock = none ∨ u.ownBlock ≠ v.ownBlock) ∧ (∀ g, u.ownBlock = some g → g < w.heap.size) ∧ (∀ g, v.ownBlock = some g → g < w.heap.size)
theorem Apart.nil (w : World) : Apart w (.slice none 0 0) (.slice none 0 0) := by simp [Apart, Value.ownBlock]
theorem Apart.ext {w w' : World} {v u : Value} (h : Apart w v u) (e : Ext w w') : Apart w' v u := ⟨h.1, fun g hg => Nat.lt_of_lt_of_le (h.2.1 g hg) e.size, fun g hg => Nat.lt_of_lt_of_le (h.2.2 g hg) e.size⟩
theorem Apart.symm {w : World} {v u : Value} (h : Apart w v u) : Apart w u v := by
  refine ⟨?_, h.2.2, h.2.1⟩
  rcases h.1 with h1 | h1
  · cases hv : v.ownBlock with
    | none => exact .inl rfl
    | some g => right; rw [h1]; simp
  · exact .inr (fun e => h1 e.symm)
theorem Apart.app {w W : World} {v v' u : Value} (h : Apart w v u) (hg : w.grownBy W v.ownBlock) (h7 : v'.ownBlock = v.ownBlock ∨ v'.ownBlock = some w.heap.size) (hv' : ∀ g, v'.ownBlock = some g → g < W.heap.size) : Apart W v' u := by
  refine ⟨?_, fun g hgu => Nat.lt_of_lt_of_le (h.2.1 g hgu) hg.size, hv'⟩
  rcases h7 with h7 | h7
  · rw [h7]; exact h.1
  · cases hu : u.ownBlock with
    | none => exact .inl rfl
    | some g =>
      right
      rw [h7]
      intro e
      injection e with e
      have := h.2.1 g hu
      omega
theorem OwnSS.lt {B : Nat} {w : World} {v : Value} {xss : List (List Int)} (h : OwnSS B w v xss) : ∀ g, v.ownBlock = some g → g < w.heap.size := fun g hg => let ⟨_, h1, _⟩ := h; (h1.lt g hg).2
theorem OwnSS.kept {B B' : Nat} {w W : World} {v u : Value} {xss yss : List (List Int)} (h : OwnSS B w u yss) (hv : OwnSS B' w v xss) (ha : Apart w v u) (hg : w.grownBy W v.ownBlock) : OwnSS B W u yss := by
  obtain ⟨vals, h1, h2⟩ := h
  obtain ⟨vals', h3, _⟩ := hv
  exact ⟨vals, h1.kept hg ha.1, h2.grown h3 hg⟩
theorem IntSS.grown {w0 W : World} {v : Value} {xss : List (List Int)} (h : IntSS w0 v xss) (hb : Below w0.heap.size w0 W) : IntSS W v xss := h.ext hb
section
variable {ops : Array Oper} {Q : Exit → Act → World → Prop} {a : Act} {w : World} {rest : List Oper}
variable {d : Option Tmp} {ty : TypeId} {pos : String} {after : Array Edge}
theorem q_bsSS {x : Operand} {A : Option Addr} {n c : Nat} (hx : a.eval x = .slice A n c)
    (k : ∀ W g, Ext w W → Blk W g 26 #[.slice A n c] → w.heap.size ≤ g → wpList Tryz.prog ops Q rest (a.put d (.slice (some ⟨g, 0, none⟩) 1 1)) W) :
    wpList Tryz.prog ops Q (⟨d, .buildSlice 93 1 #[(0, x)], ty, pos, after, none⟩ :: rest) a w :=
  q_bs1 Tryz.underlying93 ti26 rfl (by rw [hx]; rfl) (by rw [hx]; exact k)
/-- 'out = append(out, xs)', out [][]int. -/
theorem q_appSSS {s x : Operand} {B g : Nat} {v u : Value} {xss : List (List Int)} {xs : List Int} (hs : a.eval s = v) (hO : OwnSS B w v xss) (hx : a.eval x = .slice (some ⟨g, 0, none⟩) 1 1) (hb : Blk w g 26 #[u]) (hu : IntB w u xs) (hlen : xss.length ≤ 1000000000) (hB : B ≤ w.heap.size)
    (k : ∀ v' W, OwnSS B W v' (xss ++ [xs]) → (∀ w0, Below B w0 w → Below B w0 W) → w.grownBy W v.ownBlock → (v'.ownBlock = v.ownBlock ∨ v'.ownBlock = some w.heap.size) → wpList Tryz.prog ops Q rest (a.put d v') W) :
    wpList Tryz.prog ops Q (⟨d, .call { callee := .builtin .append, args := #[s, x], argTypes := #[93, 93] }, ty, pos, after, none⟩ :: rest) a w := by
  obtain ⟨vals, h1, h2⟩ := hO
  obtain ⟨A', c', hu1, _⟩ := hu.1
  refine q_append Tryz.underlying93 ti26 rfl (by decide) hs h1 hx (fun _ => ⟨_, rfl, hb.cells⟩) (by simp) (by rw [hu1]; simp [Value.oneCell']) (by omega) (by unfold maxLen; omega) hB ?_
  intro v' W h3 h4 h7
  refine k v' W ⟨vals ++ [u], by simpa using h3, ?_⟩ (fun w0 h0 => grown_ext h0 h1 h4 hB) h4 h7
  exact (h2.grown h1 h4).snoc (hu.grownSS h1 h4)
end
end Go.Bp
end
section
/- Plain Lean: enough lines. -/
namespace Go.Bp
open Go.RowKit
/-- Those of the first k tests that are passed (p), or not. -/
def passTo (c : Code) (tests : List (List Int)) (b : Bool) (k : Nat) : List (List Int) := (tests.take k).filter fun t => c.passed t == b
theorem passTo_succ (c : Code) (tests : List (List Int)) (b : Bool) {k : Nat} (hk : k < tests.length) : passTo c tests b (k + 1) = if c.passed tests[k] = b then passTo c tests b k ++ [tests[k]] else passTo c tests b k := by
  unfold passTo
  rw [take_snoc _ hk, List.filter_append]
  by_cases h : c.passed tests[k] = b <;> simp [h]
theorem passTo_len (c : Code) (tests : List (List Int)) (b : Bool) (k : Nat) : (passTo c tests b k).length ≤ k := by
  unfold passTo
  have := List.length_filter_le (fun t => c.passed t == b) (tests.take k)
  rw [List.length_take] at this; omega
def enough (c : Code) (tests : List (List Int)) (lines : List Int) : Bool :=
  (passTo c tests true tests.length).all fun a => (passTo c tests false tests.length).all fun b => !(same a b lines)
theorem enough_no {c : Code} {ts : List (List Int)} {l a b : List Int} (ha : a ∈ passTo c ts true ts.length) (hb : b ∈ passTo c ts false ts.length) (h : same a b l = true) : enough c ts l = false := by
  apply Bool.eq_false_iff.2
  intro e
  have := (List.all_eq_true.1 ((List.all_eq_true.1 e) a ha)) b hb
  rw [h] at this; cases this
theorem enough_yes {c : Code} {ts : List (List Int)} {l : List Int} (h : ∀ a ∈ passTo c ts true ts.length, ∀ b ∈ passTo c ts false ts.length, same a b l = false) : enough c ts l = true :=
  List.all_eq_true.2 fun a ha => List.all_eq_true.2 fun b hb => by rw [h a ha b hb]; rfl
theorem passTo_mem {c : Code} {ts : List (List Int)} {b : Bool} {k : Nat} {t : List Int} (h : t ∈ passTo c ts b k) : t ∈ ts ∧ c.passed t = b := by
  unfold passTo at h
  have := List.mem_filter.1 h
  exact ⟨List.mem_of_mem_take this.1, by simpa using this.2⟩
end Go.Bp
end
section
set_option maxRecDepth 100000
set_option linter.unusedSimpArgs false
set_option linter.unusedVariables false
namespace Go.Bp
open Go.RowKit Go.Proofs
theorem none_take_snoc {α : Type} {xs : List α} {p : α → Bool} {k : Nat} (hk : k < xs.length) (h : ∀ x ∈ xs.take k, p x = false) (hx : p xs[k] = false) : ∀ x ∈ xs.take (k + 1), p x = false := by
  rw [take_snoc _ hk]
  intro x hm
  rcases List.mem_append.1 hm with hm | hm
  · exact h x hm
  · simp at hm; subst hm; exact hx
theorem none2_take_snoc {α β : Type} {xs : List α} {ys : List β} {p : α → β → Bool} {k : Nat} (hk : k < xs.length) (h : ∀ x ∈ xs.take k, ∀ y ∈ ys, p x y = false) (hx : ∀ y ∈ ys, p xs[k] y = false) : ∀ x ∈ xs.take (k + 1), ∀ y ∈ ys, p x y = false := by
  rw [take_snoc _ hk]
  intro x hm
  rcases List.mem_append.1 hm with hm | hm
  · exact h x hm
  · simp at hm; subst hm; exact hx
set_option maxHeartbeats 3000000 in
theorem Renough_any (cv tv lv : Value) (c : Code) (ts : List (List Int)) (l : List Int) (w : World) (h : CodeV w cv c) (ht : IntSS w tv ts) (hl : Ints w lv l) (ho : c.Ok) (hok : ∀ t ∈ ts, c.TestOk t) (hlen : ts.length ≤ 100000)
    (hn : ∀ n ∈ l, 1 ≤ n ∧ ∀ t ∈ ts, n ≤ t.length) :
    Calls Tryz.prog 81 #[cv, tv, lv] w fun e w' => e = .returned (.bool (enough c ts l)) ∧ Ext w w' := by
  obtain ⟨fv, mv, rfl, hF, hM, hW⟩ := h
  obtain ⟨A, cp, rfl, h1, h2⟩ := ht.len
  unfold maxLen at h2
  have hE := Ext.refl w
  have HW := Lib.hid hW
  have Ho := Lib.hid ho
  have Hok := Lib.hid hok
  have Hn := Lib.hid hn
  clear hW ho hok hn
  go_enter Tryz.func81, Tryz.ntmps81
  go_wp2_with (first | ((with_reducible refine q_box (d := some 3) ?_); intro W3 g3 hE3 hB3 hg3; simp [Act.eval, Act.put, Value.cells] at hB3; (try replace hE := hE.trans hE3); (try replace hF := hF.ext hE3); (try replace hM := hM.ext hE3); (try replace hl := hl.ext hE3); (try replace ht := ht.ext hE3); (try replace hB3 := hB3.ext hE3); (try replace hb3_0 := Ext.cell_some hE3 hb3_0); (try replace hb3_1 := Ext.cell_some hE3 hb3_1); (try replace hb3_2 := Ext.cell_some hE3 hb3_2); have hb3_0 := hB3.cell 0; have hb3_1 := hB3.cell 1; have hb3_2 := hB3.cell 2; simp at hb3_0 hb3_1 hb3_2; clear hE3))
  have kF := hF; have kM := hM; have kl := hl; have kt := ht; have k0 := hb3_0; have k1 := hb3_1; have k2 := hb3_2
  go_loopw [7, 8, 9] (fun v u i wr => Ext W3 wr ∧ ∃ k : Nat, k ≤ ts.length ∧ i = .int .i64 k ∧ OwnSS W3.heap.size wr v (passTo c ts true k) ∧ OwnSS W3.heap.size wr u (passTo c ts false k) ∧ Apart wr v u) (fun _ _ i _ => ts.length - (intOf i).toNat)
  case atStart => exact ⟨Ext.refl _, 0, by omega, rfl, OwnSS.nil _ _, OwnSS.nil _ _, Apart.nil _⟩
  case round =>
    obtain ⟨hEr, k, hk, rfl, hO1, hO2, hAp⟩ := hrel
    replace hF := hF.ext hEr; replace hM := hM.ext hEr; replace hl := hl.ext hEr; replace ht := ht.ext hEr
    replace hb3_0 := Ext.cell_some hEr hb3_0; replace hb3_1 := Ext.cell_some hEr hb3_1; replace hb3_2 := Ext.cell_some hEr hb3_2
    have HkF := Lib.hid kF; have HkM := Lib.hid kM; have Hkl := Lib.hid kl; have Hkt := Lib.hid kt; have Hk0 := Lib.hid k0; have Hk1 := Lib.hid k1; have Hk2 := Lib.hid k2
    have HE0 := Lib.hid hE
    clear kF kM kl kt k0 k1 k2 hB3 hE
    have hL1 := Lib.hid (passTo_len c ts true k)
    have hL2 := Lib.hid (passTo_len c ts false k)
    by_cases hlt : k < ts.length
    · obtain ⟨ad, v, rfl, e1, hv⟩ := ht.at_ hlt
      have htk := Hok.out _ (List.getElem_mem hlt)
      have Htk := Lib.hid htk
      obtain ⟨Av, cv, rfl, hv1, hv2, _⟩ := hv.ints
      have hs1 := passTo_succ c ts true hlt
      have hs2 := passTo_succ c ts false hlt
      clear htk ht
      by_cases hp : c.passed ts[k] = true
      · have Hp := Lib.hid hp
        have hsA := hs1; have hsB := hs2
        rw [hp] at hsA hsB
        simp only [if_true, reduceCtorEq, if_false, Bool.false_eq_true, Bool.true_eq_false] at hsA hsB
        have HsA := Lib.hid hsA
        have HsB := Lib.hid hsB
        clear hsA hsB hs1 hs2
        go_wp2_with fail
        go_region_held3 (fun w' => w'.cell? ⟨g3, 0, none⟩ = some (fv) ∧ w'.cell? ⟨g3, 1, none⟩ = some (mv) ∧ w'.cell? ⟨g3, 2, none⟩ = some (.int .i64 c.all) ∧ w'.cell? (ad.add k) = some (.slice Av ts[k].length cv)) (simp [*]) ((first | (go_at_call 51; ((with_reducible refine (RPassed_any _ _ c ts[k] _ (by first | exact CodeV.of hF hM HW.out | exact (CodeV.of hF hM HW.out).d) (by first | exact hv.ints | exact (hv.ints).d) Ho.out Htk.out).mono ?_); rintro e Wc1 ⟨rfl, hEc1⟩; (try replace hEc1 := Ext.undrew hEc1); (try replace hE := hE.trans hEc1); (try replace hEr := hEr.trans hEc1); (try replace hF := hF.ext hEc1); (try replace hM := hM.ext hEc1); (try replace hl := hl.ext hEc1); (try replace hB3 := hB3.ext hEc1); (try replace hv := hv.ext hEc1); (try replace hO1 := hO1.ext hEc1); (try replace hO2 := hO2.ext hEc1); (try replace hAp := hAp.ext hEc1); (try replace hb3_0 := Ext.cell_some hEc1 hb3_0); (try replace hb3_1 := Ext.cell_some hEc1 hb3_1); (try replace hb3_2 := Ext.cell_some hEc1 hb3_2); (try replace e1 := Ext.cell_some hEc1 e1)))))
        go_wp2_with (first | ((with_reducible refine q_bsSS (d := some 29) (A := Av) (n := ts[k].length) (c := cv) ?_ ?_); rfl; intro W29 g29 hE29 hB29 hg29; replace hEr := hEr.trans hE29; replace hO1 := hO1.ext hE29; replace hO2 := hO2.ext hE29; replace hAp := hAp.ext hE29; replace hv := hv.ext hE29) | (refine q_appSSS (d := some 30) rfl hO1 rfl hB29 hv (by have := hL1.out; have := hL2.out; omega) (by have := hEr.size; omega) ?_; intro v' W30 hO' hmono hgr h7; replace hEr := hmono _ hEr; replace hO2 := hO2.kept hO1 hAp hgr; replace hAp := hAp.app hgr h7 hO'.lt))
        go_roundw
        case rel => exact ⟨hEr, k + 1, by omega, by go_num, by rw [HsA.out]; exact hO', by rw [HsB.out]; exact hO2, hAp⟩
        case measure => simp [intOf]; omega
      · simp only [Bool.not_eq_true] at hp
        have Hp := Lib.hid hp
        have hsA := hs1; have hsB := hs2
        rw [hp] at hsA hsB
        simp only [if_true, reduceCtorEq, if_false, Bool.false_eq_true, Bool.true_eq_false] at hsA hsB
        have HsA := Lib.hid hsA
        have HsB := Lib.hid hsB
        clear hsA hsB hs1 hs2
        go_wp2_with fail
        go_region_held3 (fun w' => w'.cell? ⟨g3, 0, none⟩ = some (fv) ∧ w'.cell? ⟨g3, 1, none⟩ = some (mv) ∧ w'.cell? ⟨g3, 2, none⟩ = some (.int .i64 c.all) ∧ w'.cell? (ad.add k) = some (.slice Av ts[k].length cv)) (simp [*]) ((first | (go_at_call 51; ((with_reducible refine (RPassed_any _ _ c ts[k] _ (by first | exact CodeV.of hF hM HW.out | exact (CodeV.of hF hM HW.out).d) (by first | exact hv.ints | exact (hv.ints).d) Ho.out Htk.out).mono ?_); rintro e Wc2 ⟨rfl, hEc2⟩; (try replace hEc2 := Ext.undrew hEc2); (try replace hE := hE.trans hEc2); (try replace hEr := hEr.trans hEc2); (try replace hF := hF.ext hEc2); (try replace hM := hM.ext hEc2); (try replace hl := hl.ext hEc2); (try replace hB3 := hB3.ext hEc2); (try replace hv := hv.ext hEc2); (try replace hO1 := hO1.ext hEc2); (try replace hO2 := hO2.ext hEc2); (try replace hAp := hAp.ext hEc2); (try replace hb3_0 := Ext.cell_some hEc2 hb3_0); (try replace hb3_1 := Ext.cell_some hEc2 hb3_1); (try replace hb3_2 := Ext.cell_some hEc2 hb3_2); (try replace e1 := Ext.cell_some hEc2 e1)))))
        go_wp2_with (first | ((with_reducible refine q_bsSS (d := some 36) (A := Av) (n := ts[k].length) (c := cv) ?_ ?_); rfl; intro W29 g29 hE29 hB29 hg29; replace hEr := hEr.trans hE29; replace hO1 := hO1.ext hE29; replace hO2 := hO2.ext hE29; replace hAp := hAp.ext hE29; replace hv := hv.ext hE29) | (refine q_appSSS (d := some 37) rfl hO2 rfl hB29 hv (by have := hL1.out; have := hL2.out; omega) (by have := hEr.size; omega) ?_; intro v' W30 hO' hmono hgr h7; replace hEr := hmono _ hEr; replace hO1 := hO1.kept hO2 hAp.symm hgr; replace hAp := (hAp.symm.app hgr h7 hO'.lt).symm))
        go_roundw
        case rel => exact ⟨hEr, k + 1, by omega, by go_num, by rw [HsA.out]; exact hO1, by rw [HsB.out]; exact hO', hAp⟩
        case measure => simp [intOf]; omega
    · obtain rfl : k = ts.length := by omega
      obtain ⟨P, eP⟩ : ∃ P, passTo c ts true ts.length = P := ⟨_, rfl⟩
      obtain ⟨F, eF⟩ : ∃ F, passTo c ts false ts.length = F := ⟨_, rfl⟩
      have hmP : ∀ a ∈ P, ∀ n ∈ l, 1 ≤ n ∧ n ≤ a.length := fun a ha n hn => by
        rw [← eP] at ha
        exact ⟨(Hn.out n hn).1, (Hn.out n hn).2 a (passTo_mem ha).1⟩
      have hmF : ∀ a ∈ F, ∀ n ∈ l, 1 ≤ n ∧ n ≤ a.length := fun a ha n hn => by
        rw [← eF] at ha
        exact ⟨(Hn.out n hn).1, (Hn.out n hn).2 a (passTo_mem ha).1⟩
      rw [eP] at hO1
      rw [eF] at hO2
      have hP := hO1.ss
      have hN := hO2.ss
      obtain ⟨AP, cP, rfl, p1, p2⟩ := hP.len
      obtain ⟨AF, cF, rfl, p3, p4⟩ := hN.len
      unfold maxLen at p2 p4
      have HmP := Lib.hid hmP
      have HmF := Lib.hid hmF
      have EP := Lib.hid eP
      have EF := Lib.hid eF
      have hgW : Ext w wr := HE0.out.trans hEr
      clear hmP hmF eP eF hO1 hO2 hAp hF hM ht hL1 hL2 hEr
      go_wp2
      obtain ⟨Wl, hWl⟩ : ∃ W, W = wr := ⟨_, rfl⟩
      subst hWl
      have kl := hl; have kP := hP; have kN := hN
      go_loopw [10] (fun i wr => Ext Wl wr ∧ ∃ k : Nat, k ≤ P.length ∧ i = .int .i64 k ∧ ∀ a ∈ P.take k, ∀ b ∈ F, same a b l = false) (fun i _ => P.length - (intOf i).toNat)
      case atStart => exact ⟨Ext.refl _, 0, by omega, rfl, by simp⟩
      case round =>
        obtain ⟨hEs, k, hk, rfl, hfi⟩ := hrel
        have Hfi := Lib.hid hfi
        replace kl := kl.ext hEs; replace kP := kP.ext hEs; replace kN := kN.ext hEs
        clear hfi hl hP hN
        by_cases hlt : k < P.length
        · obtain ⟨ad, v, rfl, e1, hv⟩ := kP.at_ hlt
          go_wp2
          obtain ⟨Wm, hWm⟩ : ∃ W, W = wr := ⟨_, rfl⟩
          subst hWm
          go_loopw [11] (fun i wr => Ext Wm wr ∧ ∃ m : Nat, m ≤ F.length ∧ i = .int .i64 m ∧ ∀ b ∈ F.take m, same P[k] b l = false) (fun i _ => F.length - (intOf i).toNat)
          case atStart => exact ⟨Ext.refl _, 0, by omega, rfl, by simp⟩
          case round =>
            obtain ⟨hEm, m, hm, rfl, hfj⟩ := hrel
            have Hfj := Lib.hid hfj
            replace kl := kl.ext hEm; replace kN := kN.ext hEm
            replace e1 := Ext.cell_some hEm e1
            replace hv := hv.ext hEm
            clear hfj kP
            have hEn := hEs.trans hEm
            by_cases hmt : m < F.length
            · obtain ⟨ad2, u, rfl, e2, hu⟩ := kN.at_ hmt
              have hns : ∀ n ∈ l, 1 ≤ n ∧ n ≤ P[k].length ∧ n ≤ F[m].length := fun n hn => ⟨(HmP.out _ (List.getElem_mem hlt) n hn).1, (HmP.out _ (List.getElem_mem hlt) n hn).2, (HmF.out _ (List.getElem_mem hmt) n hn).2⟩
              have Hns := Lib.hid hns
              obtain ⟨Av, cv, rfl, hv1, hv2, _⟩ := hv.ints
              obtain ⟨Au, cu, rfl, hu1, hu2, _⟩ := hu.ints
              clear hns kN
              by_cases hp : same P[k] F[m] l = true
              · have Hf := Lib.hid (enough_no (c := c) (ts := ts) (l := l) (by rw [EP.out]; exact List.getElem_mem hlt) (by rw [EF.out]; exact List.getElem_mem hmt) hp)
                go_wp2_with fail
                go_region_held3 (fun w' => w'.cell? (ad.add k) = some (.slice Av P[k].length cv) ∧ w'.cell? (ad2.add m) = some (.slice Au F[m].length cu)) (simp [*]) ((first | (go_at_call 111; ((with_reducible refine (Same_any _ _ _ P[k] F[m] l _ (by first | exact hv.ints | exact (hv.ints).d) (by first | exact hu.ints | exact (hu.ints).d) (by first | exact kl | exact (kl).d) Hns.out).mono ?_); rintro e Wc3 ⟨rfl, hEc3⟩; (try replace hEc3 := Ext.undrew hEc3); (try replace hE := hE.trans hEc3); (try replace hEr := hEr.trans hEc3); (try replace hEn := hEn.trans hEc3); (try replace hEm := hEm.trans hEc3); (try replace hB3 := hB3.ext hEc3); (try replace hv := hv.ext hEc3); (try replace hu := hu.ext hEc3); (try replace kl := kl.ext hEc3); (try replace hb3_0 := Ext.cell_some hEc3 hb3_0); (try replace hb3_1 := Ext.cell_some hEc3 hb3_1); (try replace hb3_2 := Ext.cell_some hEc3 hb3_2); (try replace e1 := Ext.cell_some hEc3 e1); (try replace e1 := Ext.cell_some hEc3 e1); (try replace e2 := Ext.cell_some hEc3 e2)))))
                go_wp2
                go_ret
                exact ⟨ret_b Hf.out.symm, hgW.trans hEn⟩
              · simp only [Bool.not_eq_true] at hp
                have Hp := Lib.hid hp
                go_wp2_with fail
                go_region_held3 (fun w' => w'.cell? (ad.add k) = some (.slice Av P[k].length cv) ∧ w'.cell? (ad2.add m) = some (.slice Au F[m].length cu)) (simp [*]) ((first | (go_at_call 111; ((with_reducible refine (Same_any _ _ _ P[k] F[m] l _ (by first | exact hv.ints | exact (hv.ints).d) (by first | exact hu.ints | exact (hu.ints).d) (by first | exact kl | exact (kl).d) Hns.out).mono ?_); rintro e Wc4 ⟨rfl, hEc4⟩; (try replace hEc4 := Ext.undrew hEc4); (try replace hE := hE.trans hEc4); (try replace hEr := hEr.trans hEc4); (try replace hEn := hEn.trans hEc4); (try replace hEm := hEm.trans hEc4); (try replace hB3 := hB3.ext hEc4); (try replace hv := hv.ext hEc4); (try replace hu := hu.ext hEc4); (try replace kl := kl.ext hEc4); (try replace hb3_0 := Ext.cell_some hEc4 hb3_0); (try replace hb3_1 := Ext.cell_some hEc4 hb3_1); (try replace hb3_2 := Ext.cell_some hEc4 hb3_2); (try replace e1 := Ext.cell_some hEc4 e1); (try replace e1 := Ext.cell_some hEc4 e1); (try replace e2 := Ext.cell_some hEc4 e2)))))
                go_wp2
                go_roundw
                case rel => exact ⟨hEm, m + 1, by omega, by go_num, none_take_snoc hmt Hfj.out Hp.out⟩
                case measure => simp [intOf]; omega
            · obtain rfl : m = F.length := by omega
              go_wp2
              go_roundw
              case rel => exact ⟨hEn, k + 1, by omega, by go_num, none2_take_snoc hlt Hfi.out (fun b hb => Hfj.out b (by rwa [List.take_length]))⟩
              case measure => simp [intOf]; omega
        · obtain rfl : k = P.length := by omega
          have Hf := Lib.hid (enough_yes (c := c) (ts := ts) (l := l) (fun a ha b hb => Hfi.out a (by rw [EP.out] at ha; rwa [List.take_length]) b (by rw [EF.out] at hb; exact hb)))
          go_wp2
          go_ret
          exact ⟨ret_b Hf.out.symm, hgW.trans hEs⟩
end Go.Bp
end
section
/- Plain Lean: the lists of a given length, and the tests that fit a sheet. -/
namespace Go.Bp
open Go.RowKit
def combos : Nat → List Int → List (List Int)
  | 0, _ => [[]]
  | _ + 1, [] => []
  | m + 1, x :: l => (combos m l).map (x :: ·) ++ combos (m + 1) l
theorem combos_len (l : List Int) : ∀ m, (combos m l).length ≤ 2 ^ l.length := by
  induction l with
  | nil => intro m; cases m <;> simp [combos]
  | cons x l ih =>
    intro m
    have hp : 0 < 2 ^ l.length := Nat.pow_pos (by decide)
    cases m with
    | zero => simp only [combos, List.length_cons, List.length_nil, Nat.pow_succ]; omega
    | succ m =>
      have h1 := ih m
      have h2 := ih (m + 1)
      simp only [combos, List.length_append, List.length_map, List.length_cons, Nat.pow_succ]; omega
def headAt (l : List Int) (k : Nat) : Int := l.getD k 0
theorem headAt_eq {l : List Int} {k : Nat} (hk : k < l.length) : headAt l k = l[k] := by simp [headAt, List.getD, hk]
/-- The lists of m + 1 that begin with one of the first k. -/
def front (m : Nat) (l : List Int) : Nat → List (List Int)
  | 0 => []
  | k + 1 => front m l k ++ (combos m (l.drop (k + 1))).map (headAt l k :: ·)
theorem front_split (m : Nat) (l : List Int) : ∀ k, k ≤ l.length → combos (m + 1) l = front m l k ++ combos (m + 1) (l.drop k)
  | 0, _ => by simp [front]
  | k + 1, hk => by
    have hk' : k < l.length := by omega
    rw [front_split m l k (by omega), front, List.append_assoc, headAt_eq hk', List.drop_eq_getElem_cons hk', combos]
theorem front_all (m : Nat) (l : List Int) : front m l l.length = combos (m + 1) l := by
  have := front_split m l l.length (Nat.le_refl _)
  rw [List.drop_length, combos, List.append_nil] at this
  exact this.symm
/-- .. and the first j of those that begin with number k. -/
def frontJ (m : Nat) (l : List Int) (k j : Nat) : List (List Int) := front m l k ++ ((combos m (l.drop (k + 1))).take j).map (headAt l k :: ·)
theorem frontJ_zero (m : Nat) (l : List Int) (k : Nat) : frontJ m l k 0 = front m l k := by simp [frontJ]
theorem frontJ_succ (m : Nat) (l : List Int) {k j : Nat} (hk : k < l.length) (hj : j < (combos m (l.drop (k + 1))).length) : frontJ m l k (j + 1) = frontJ m l k j ++ [l[k] :: (combos m (l.drop (k + 1)))[j]] := by
  unfold frontJ
  rw [take_snoc _ hj, List.map_append, List.append_assoc, headAt_eq hk]; rfl
theorem frontJ_all (m : Nat) (l : List Int) (k : Nat) : frontJ m l k (combos m (l.drop (k + 1))).length = front m l (k + 1) := by
  unfold frontJ; rw [List.take_length, front]
theorem frontJ_len (m : Nat) (l : List Int) {k : Nat} (hk : k < l.length) (j : Nat) : (frontJ m l k j).length ≤ 2 ^ l.length := by
  have h1 := front_split m l (k + 1) hk
  have h2 := combos_len l (m + 1)
  rw [h1, front, List.length_append, List.length_append, List.length_map] at h2
  unfold frontJ
  rw [List.length_append, List.length_map, List.length_take]
  omega
theorem combos_mem_len (l : List Int) : ∀ m, ∀ t ∈ combos m l, t.length = m := by
  induction l with
  | nil => intro m t ht; cases m <;> simp [combos] at ht; subst ht; rfl
  | cons x l ih =>
    intro m t ht
    cases m with
    | zero => simp [combos] at ht; subst ht; rfl
    | succ m =>
      simp only [combos, List.mem_append, List.mem_map] at ht
      rcases ht with ⟨u, hu, rfl⟩ | ht
      · simp [ih m u hu]
      · exact ih (m + 1) t ht
end Go.Bp
end
section
/- Regions that draw their order, walked in ONE order: what only reads is taken first; what changes the world comes up alone. -/
set_option maxRecDepth 100000
namespace Go.Bp
open Go.RowKit Go.Proofs
section
variable {P : Program} {md : Region.Mode} {ops : Array Oper} {Q : Exit → Act → World → Prop} {S : World → Prop}
/-- (i, true): number i only reads and is taken first; (i, false): number i alone may come up. -/
def okOrder (md : Region.Mode) (ops : Array Oper) : List (Nat × Bool) → Array Bool → Bool
  | [], l => (Region.ready md ops l).isEmpty
  | (i, true) :: r, l => Region.free md ops l i && (Region.ready md ops l).contains i && okOrder md ops r (l.setIfInBounds i true)
  | (i, false) :: r, l => (Region.ready md ops l == [i]) && okOrder md ops r (l.setIfInBounds i true)
def wpSeqH (P : Program) (ops : Array Oper) (Q : Exit → Act → World → Prop) (S : World → Prop) : List (Nat × Bool) → Act → World → Prop
  | [], a, w => Q .normal a w
  | (i, true) :: r, a, w => ∃ oi v, ops[i]? = some oi ∧ YieldsIf P ops S oi v a ∧ S w ∧ wpSeqH P ops Q S r (a.put oi.dst v) w
  | (i, false) :: r, a, w => wpOp P ops Q i (fun a' w' => S w' ∧ wpSeqH P ops Q S r a' w') a w
theorem put_any (hQ : ∀ c (a : Act) (d : Tmp) (v : Value) (w : World), Q (.panic c) (a.put (some d) v) w → Q (.panic c) a w) : ∀ c (a : Act) (d : Option Tmp) (v : Value) (w : World), Q (.panic c) (a.put d v) w → Q (.panic c) a w
  | c, a, some d, v, w, h => hQ c a d v w h
  | _, _, none, _, _, h => h
theorem wpAnyH_of_seq (hs : Region.noSelect ops = true) (hQ : ∀ c (a : Act) (d : Tmp) (v : Value) (w : World), Q (.panic c) (a.put (some d) v) w → Q (.panic c) a w) :
    ∀ (order : List (Nat × Bool)) (l : Array Bool) (fuel : Nat) (a : Act) (w : World), order.length ≤ fuel → okOrder md ops order l = true → wpSeqH P ops Q S order a w → wpAnyH P md ops Q S fuel l a w
  | [], l, fuel, a, w, _, hok, h => wpAnyH_done (by simpa [okOrder] using hok) h fuel
  | (i, true) :: r, l, 0, a, w, hf, _, _ => by simp at hf
  | (i, false) :: r, l, 0, a, w, hf, _, _ => by simp at hf
  | (i, true) :: r, l, fuel + 1, a, w, hf, hok, h => by
    obtain ⟨oi, v, ho, hy, hS, h⟩ := h
    simp only [okOrder, Bool.and_eq_true] at hok
    exact wpAnyH_take ho hs hok.1.1 hok.1.2 (fun c a w h => put_any hQ c a oi.dst v w h) hy hS (wpAnyH_of_seq hs hQ r _ fuel _ _ (by simpa using hf) hok.2 h)
  | (i, false) :: r, l, fuel + 1, a, w, hf, hok, h => by
    simp only [okOrder, Bool.and_eq_true, beq_iff_eq] at hok
    refine wpAnyH_all hok.1 (by simp) fun j hj => ?_
    obtain rfl : j = i := by simpa using hj
    exact wpOp_mono (fun a' w' h' => ⟨h'.1, wpAnyH_of_seq hs hQ r _ fuel _ _ (by simpa using hf) hok.2 h'.2⟩) h
/-- The beginning. -/
theorem wp_region_order {id : Nat} {a : Act} {w : World} (order : List (Nat × Bool)) (S : World → Prop) (hm : P.follows .mixedOrders = true)
    (hs : Region.noSelect ops = true) (hf : Nat.ble order.length ops.size = true) (hok : okOrder .any ops order (Array.replicate ops.size false) = true)
    (hQ : ∀ c (a : Act) (d : Tmp) (v : Value) (w : World), Q (.panic c) (a.put (some d) v) w → Q (.panic c) a w)
    (hS : S w.drew) (h : S w.drew → wpSeqH P ops Q S order a w.drew) : (Code.region id ops true).wp P Q a w :=
  wp_region_held_drew (S := S) hm hS fun hS => wpAnyH_of_seq hs hQ order _ _ _ _ (Nat.le_of_ble_eq_true hf) hok (h hS)
variable {i : Nat} {r : List (Nat × Bool)} {o : Oper} {a : Act} {w : World}
theorem h_done (h : Q .normal a w) : wpSeqH P ops Q S [] a w := h
theorem h_take {v : Value} (ho : ops[i]? = some o) (hg : o.guard = none) (hy : ∀ w, S w → (execOp a.eval o).run P w = .ok (.value v) w) (hS : S w)
    (k : wpSeqH P ops Q S r (a.put o.dst v) w) : wpSeqH P ops Q S ((i, true) :: r) a w :=
  ⟨o, v, ho, .inl ⟨by simp [Region.wanted, hg], hy⟩, hS, k⟩
/-- What follows in a region's one order, as a post of a list of operations. -/
def thenSeq (P : Program) (ops : Array Oper) (Q : Exit → Act → World → Prop) (S : World → Prop) (r : List (Nat × Bool)) : Exit → Act → World → Prop
  | .normal, a, w => S w ∧ wpSeqH P ops Q S r a w
  | e, a, w => Q e a w
theorem upon_then {next : Act → World → Prop} {x : Result Next} (h : o.upon P a next (thenSeq P ops Q S r) x) : o.upon P a next Q x := by
  cases x with
  | ok n w' =>
    cases n with
    | enter f args => exact Calls.mono h fun e w'' he => by cases e <;> exact he
    | _ => exact h
  | halt x w' =>
    cases x <;> exact h
theorem h_list (ho : ops[i]? = some o) (h : wpList P ops (thenSeq P ops Q S r) [o] a w) : wpSeqH P ops Q S ((i, false) :: r) a w := by
  unfold wpSeqH wpOp
  simp only [ho]
  unfold wpList at h
  split
  · rename_i hw
    rw [if_pos hw] at h
    rcases h with h | ⟨h1, ⟨a2, w2, h2⟩⟩
    · exact .inl (upon_then h)
    · exact .inr ⟨h1, ⟨a2, w2, h2⟩⟩
  · rename_i hw
    rw [if_neg hw] at h
    exact h
theorem h_next (hS : S w) (k : S w → wpSeqH P ops Q S r a w) : wpList P ops (thenSeq P ops Q S r) [] a w := ⟨hS, k hS⟩
end
end Go.Bp
end
section
set_option maxRecDepth 100000
set_option linter.unusedSimpArgs false
set_option linter.unusedVariables false
namespace Go.Bp
open Go.RowKit Go.Proofs
/-- A slice of slices. -/
def RetSS (w : World) (xss : List (List Int)) (e : Ending) (w' : World) : Prop := ∃ v, e = .returned v ∧ OwnSS w.heap.size w' v xss ∧ Ext w w'
theorem OwnI.of_blk {B g : Nat} {w : World} {n : Int} (h : Blk w g 3 #[.int .i64 n]) (hB : B ≤ g) : OwnI B w (.slice (some ⟨g, 0, none⟩) 1 1) [n] :=
  ⟨by simp [encI], .inr ⟨g, 1, _, rfl, hB, h, Nat.le_refl _, by decide, rfl, by simp [encI]⟩⟩
theorem OwnSS.of_blk {B g : Nat} {w : World} {v : Value} {xs : List Int} (h : Blk w g 26 #[v]) (hv : IntB w v xs) (hB : B ≤ g) : OwnSS B w (.slice (some ⟨g, 0, none⟩) 1 1) [xs] :=
  ⟨[v], ⟨by simp, .inr ⟨g, 1, _, rfl, hB, h, Nat.le_refl _, by decide, rfl, by simp⟩⟩, rfl, fun i u ys h1 h2 => by
    cases i with
    | zero => simp at h1 h2; subst h1 h2; exact hv
    | succ i => simp at h1⟩
theorem combos_zero (l : List Int) : combos 0 l = [[]] := by simp [combos]
theorem Apart.fresh {B : Nat} {w W : World} {v u : Value} {xss yss : List (List Int)} (hv : OwnSS B w v xss) (hu : OwnSS w.heap.size W u yss) (e : Ext w W) : Apart W v u := by
  refine ⟨?_, hu.lt, fun g hg => Nat.lt_of_lt_of_le (hv.lt g hg) e.size⟩
  cases hb : u.ownBlock with
  | none => exact .inl rfl
  | some g =>
    right
    intro e2
    obtain ⟨_, h1, _⟩ := hu
    have h3 := hv.lt g e2.symm
    have := (h1.lt g hb).1
    omega
theorem Apart.cell {w W : World} {v : Value} {ad : Addr} {n c i : Nat} {x : Value} (h : Apart w v (.slice (some ad) n c)) (hg : w.grownBy W v.ownBlock) (hc : w.cell? (ad.add i) = some x) : W.cell? (ad.add i) = some x := by
  rw [World.cell?_of_block (w := w)]
  · exact hc
  · rw [block_of_add]
    refine hg.block _ (h.2.1 _ rfl) fun e => ?_
    rcases h.1 with h1 | h1
    · simp [Value.ownBlock] at h1
    · exact h1 e
theorem IntB.nil (w : World) : IntB w (.slice none 0 0) [] := IntB.of_own (OwnI.nil 0 w)
section
variable {ops : Array Oper} {Q : Exit → Act → World → Prop} {a : Act} {w : World} {rest : List Oper}
variable {d : Option Tmp} {ty : TypeId} {pos : String} {after : Array Edge}
/-- 'xs[k:]', []int. -/
theorem q_dropI {x y : Operand} {v : Value} {xs : List Int} {k : Nat} (hx : a.eval x = v) (hI : Ints w v xs) (hy : a.eval y = .int .i64 k) (hk : k ≤ xs.length) (h0 : 0 < xs.length)
    (kk : ∀ u, Ints w u (xs.drop k) → wpList Tryz.prog ops Q rest (a.put d u) w) :
    wpList Tryz.prog ops Q (⟨d, .slice 26 x (some y) none none, ty, pos, after, none⟩ :: rest) a w := by
  obtain ⟨A, c, rfl, h1, h2, h3, h4⟩ := hI
  obtain ⟨ad, rfl, hc⟩ := h4 h0
  have hd : ∀ ad', (k < xs.length → ad' = ad.add k) → Ints w (.slice (some ad') (xs.length - k) (c - k)) (xs.drop k) := by
    intro ad' ha
    have hl : (xs.drop k).length = xs.length - k := by rw [List.length_drop]
    unfold Ints
    rw [hl]
    refine ⟨some ad', c - k, rfl, by omega, by omega, by rw [encI_len, hl]; omega, fun h0' => ⟨ad', rfl, ?_⟩⟩
    rw [ha (by omega)]
    refine hc.sub k fun j u hj => ?_
    have : encI (xs.drop k) = (encI xs).drop k := by simp [encI]
    rw [this, List.getElem?_drop] at hj
    exact hj
  refine wpList_plain rfl fun K hK => ?_
  unfold Oper.wp execOp
  unfold maxLen at h2
  have g1 : (0 : Int) ≤ k := by omega
  have g2 : (k : Int) ≤ xs.length := by omega
  have g3 : (xs.length : Int) ≤ c := by omega
  simp only [hx, hy]
  rw [show (Option.map a.eval (some y)) = some (.int .i64 k) by simp [hy]]
  have key : ∃ ad', (k < xs.length → ad' = ad.add k) ∧ (Instr.sliceAt 26 (.slice (some ad) xs.length c) (some (.int .i64 k)) none none).run Tryz.prog w = .ok (.slice (some ad') (xs.length - k) (c - k)) w := by
    refine ⟨if c = k then ad else ad.add k, fun h => by rw [if_neg (by omega)], ?_⟩
    have hz : sizeOf 3 = sizeOf 3 := rfl
    simp [asIntOf, Instr.sliceAt, Instr.slice, Instr.sliceBounds, Instr.sliceBound, run_underlying Tryz.underlying26, g1, g2, g3]
    rw [if_pos hk]
    by_cases e : c = k <;> simp [e]
  obtain ⟨ad', ha, hr⟩ := key
  rw [Sem.run_bind, show Option.map a.eval none = none from rfl, hr]
  exact hK _ _ (kk _ (hd ad' ha))
end
set_option maxHeartbeats 3000000 in
theorem Rsome_any : ∀ (m : Nat) (lv : Value) (l : List Int) (w : World), Ints w lv l → l.length ≤ 12 → m ≤ 12 →
    Calls Tryz.prog 66 #[lv, .int .i64 m] w (RetSS w (combos m l)) := by
  intro m
  induction m with
  | zero =>
    intro lv l w hl hlen hm
    have hE := Ext.refl w
    go_enter Tryz.func66, Tryz.ntmps66
    go_wp2_with (first | ((with_reducible refine q_bsSS (d := some 11) (A := none) (n := 0) (c := 0) ?_ ?_); rfl; intro W11 g11 hE11 hB11 hg11; replace hE := hE.trans hE11))
    go_ret
    exact ⟨_, rfl, by rw [combos_zero]; exact OwnSS.of_blk hB11 (IntB.nil _) hg11, hE⟩
  | succ m ih =>
    intro lv l w hl hlen hm
    have hE := Ext.refl w
    have hlI := hl
    obtain ⟨A, cp, rfl, h1, h2, h3, h4⟩ := hl
    unfold maxLen at h2
    have z0 : ((m : Int) + 1 == 0) = false := by simp; omega
    have z1 : IntKind.i64.wrap ((m : Int) + 1 - 1) = (m : Int) := by rw [IntWalk.i64_in _ (by omega)]; omega
    rw [show ((m + 1 : Nat) : Int) = (m : Int) + 1 by omega]
    go_enter Tryz.func66, Tryz.ntmps66
    go_wp2
    go_loopw [5, 6] (fun v i wr => Ext w wr ∧ ∃ k : Nat, k ≤ l.length ∧ i = .int .i64 k ∧ OwnSS w.heap.size wr v (front m l k)) (fun _ i _ => l.length - (intOf i).toNat)
    case atStart => exact ⟨Ext.refl _, 0, by omega, rfl, OwnSS.nil _ _⟩
    case round =>
      obtain ⟨hEr, k, hk, rfl, hO⟩ := hrel
      have Hl := hlI.ext hEr
      clear hE
      by_cases hlt : k < l.length
      · obtain ⟨ad, rfl, hc⟩ := h4 (by omega)
        have z2 : IntKind.i64.wrap ((k : Int) + 1) = (k : Int) + 1 := IntWalk.i64_in _ (by omega)
        have e1 := (hc.ext hEr).i hlt
        have hcs := combos_len (l.drop (k + 1)) m
        have hdl : (l.drop (k + 1)).length ≤ 12 := by rw [List.length_drop]; omega
        have h2p : 2 ^ (l.drop (k + 1)).length ≤ 2 ^ 12 := Nat.pow_le_pow_right (by decide) hdl
        go_wp2_with (first | ((with_reducible refine q_dropI (d := some 21) (k := k + 1) (v := .slice (some ad) l.length cp) ?_ Hl ?_ (by omega) (by omega) ?_); rfl; rfl; intro u hu) | (go_at_call 66; ((with_reducible refine (ih _ _ _ hu (by rw [List.length_drop]; omega) (by omega)).mono ?_); rintro e Wc ⟨v7, rfl, hO7, hEc⟩)))
        obtain ⟨cs, ecs⟩ : ∃ cs, combos m (l.drop (k + 1)) = cs := ⟨_, rfl⟩
        have hml : ∀ t ∈ cs, t.length = m := fun t ht => combos_mem_len (l.drop (k + 1)) m t (by rw [ecs]; exact ht)
        have hAp := Apart.fresh hO hO7 hEc
        rw [ecs] at hO7 hcs
        have hsucc : ∀ j (hj : j < cs.length), frontJ m l k (j + 1) = frontJ m l k j ++ [l[k] :: cs[j]] := by
          subst ecs; exact fun j hj => frontJ_succ m l hlt hj
        have hend : frontJ m l k cs.length = front m l (k + 1) := by subst ecs; exact frontJ_all m l k
        have hfl := frontJ_len m l hlt
        have h2q : 2 ^ l.length ≤ 2 ^ 12 := Nat.pow_le_pow_right (by decide) hlen
        rw [← frontJ_zero] at hO
        obtain ⟨A7, c7, rfl, q1, q2⟩ := hO7.ss.len
        unfold maxLen at q2
        have Hml := Lib.hid hml
        have Hsucc := Lib.hid hsucc
        have Hend := Lib.hid hend
        have Hfl := Lib.hid hfl
        have HcI := Lib.hid hc
        have hcl : cs.length ≤ 4096 := by have e12 : (2 : Nat) ^ 12 = 4096 := rfl; omega
        have hsz := hEr.size
        replace hEr := hEr.trans hEc
        replace hO := hO.ext hEc
        clear ecs hml hsucc hend hfl hcs h2p hc e1 Hl h4 hu hdl hlI
        go_loopw [5, 8] (fun v j wr => Ext w wr ∧ ∃ n : Nat, n ≤ cs.length ∧ j = .int .i64 n ∧ OwnSS w.heap.size wr v (frontJ m l k n) ∧ OwnSS w.heap.size wr (.slice A7 cs.length c7) cs ∧ Apart wr v (.slice A7 cs.length c7)) (fun _ j _ => cs.length - (intOf j).toNat)
        case atStart => exact ⟨hEr, 0, by omega, rfl, hO, hO7.base hsz, hAp⟩
        case round =>
          obtain ⟨hEs, n, hn, rfl, hP, hN, hAp'⟩ := hrel
          clear hO hO7 hAp
          have e1 := (HcI.out.ext hEs).i hlt
          by_cases hnt : n < cs.length
          · obtain ⟨ad7, u, rfl, e2, hu⟩ := hN.ss.at_ hnt
            obtain ⟨Au, cu, rfl, hu1, hu2, _⟩ := hu.ints
            have Hm2 := Lib.hid (Hml.out _ (List.getElem_mem hnt))
            have hs := Hsucc.out n hnt
            have Hs := Lib.hid hs
            clear hs
            go_wp2_with fail
            refine wp_region_order [(0, true), (1, true), (2, true), (3, true), (4, true), (6, true), (7, true), (8, true), (9, true), (5, false), (10, false), (11, false), (12, false), (13, true)] (fun w' => w'.cell? (ad.add k) = some (.int .i64 l[k]) ∧ w'.cell? (ad7.add n) = some (.slice Au cs[n].length cu)) (by kernel_rfl) (by kernel_rfl) (by kernel_rfl) (by kernel_rfl) (fun _ _ _ _ _ h => h) ?_ (fun hHeld => ?_)
            · ((try dsimp only); (repeat' apply And.intro) <;> first | assumption | (refine Ext.cell_some (Ext.todrew (Ext.refl _)) ?_; assumption))
            refine h_take (i := 0) (v := ?_) (by (simp only [List.getElem?_toArray, List.getElem?_cons_succ, List.getElem?_cons_zero]); rfl) (by rfl) ?_ (by exact hHeld) ?_
            rotate_left
            · (intro wq hSw; (try dsimp only at hSw); go_simp; (try with_reducible rfl))
            (try simp only [Act.put, List.setIfInBounds_toArray, List.set_cons_zero, List.set_cons_succ])
            refine h_take (i := 1) (v := ?_) (by (simp only [List.getElem?_toArray, List.getElem?_cons_succ, List.getElem?_cons_zero]); rfl) (by rfl) ?_ (by exact hHeld) ?_
            rotate_left
            · (intro wq hSw; (try dsimp only at hSw); go_simp; (try with_reducible rfl))
            (try simp only [Act.put, List.setIfInBounds_toArray, List.set_cons_zero, List.set_cons_succ])
            refine h_take (i := 2) (v := ?_) (by (simp only [List.getElem?_toArray, List.getElem?_cons_succ, List.getElem?_cons_zero]); rfl) (by rfl) ?_ (by exact hHeld) ?_
            rotate_left
            · (intro wq hSw; (try dsimp only at hSw); go_simp; (try with_reducible rfl))
            (try simp only [Act.put, List.setIfInBounds_toArray, List.set_cons_zero, List.set_cons_succ])
            refine h_take (i := 3) (v := ?_) (by (simp only [List.getElem?_toArray, List.getElem?_cons_succ, List.getElem?_cons_zero]); rfl) (by rfl) ?_ (by exact hHeld) ?_
            rotate_left
            · (intro wq hSw; (try dsimp only at hSw); go_simp; (try with_reducible rfl))
            (try simp only [Act.put, List.setIfInBounds_toArray, List.set_cons_zero, List.set_cons_succ])
            refine h_take (i := 4) (v := ?_) (by (simp only [List.getElem?_toArray, List.getElem?_cons_succ, List.getElem?_cons_zero]); rfl) (by rfl) ?_ (by exact hHeld) ?_
            rotate_left
            · (intro wq hSw; (try dsimp only at hSw); go_simp; (try with_reducible rfl))
            (try simp only [Act.put, List.setIfInBounds_toArray, List.set_cons_zero, List.set_cons_succ])
            refine h_take (i := 6) (v := ?_) (by (simp only [List.getElem?_toArray, List.getElem?_cons_succ, List.getElem?_cons_zero]); rfl) (by rfl) ?_ (by exact hHeld) ?_
            rotate_left
            · (intro wq hSw; (try dsimp only at hSw); go_simp; (try with_reducible rfl))
            (try simp only [Act.put, List.setIfInBounds_toArray, List.set_cons_zero, List.set_cons_succ])
            refine h_take (i := 7) (v := ?_) (by (simp only [List.getElem?_toArray, List.getElem?_cons_succ, List.getElem?_cons_zero]); rfl) (by rfl) ?_ (by exact hHeld) ?_
            rotate_left
            · (intro wq hSw; (try dsimp only at hSw); go_simp; (try with_reducible rfl))
            (try simp only [Act.put, List.setIfInBounds_toArray, List.set_cons_zero, List.set_cons_succ])
            refine h_take (i := 8) (v := ?_) (by (simp only [List.getElem?_toArray, List.getElem?_cons_succ, List.getElem?_cons_zero]); rfl) (by rfl) ?_ (by exact hHeld) ?_
            rotate_left
            · (intro wq hSw; (try dsimp only at hSw); go_simp; (try with_reducible rfl))
            (try simp only [Act.put, List.setIfInBounds_toArray, List.set_cons_zero, List.set_cons_succ])
            refine h_take (i := 9) (v := ?_) (by (simp only [List.getElem?_toArray, List.getElem?_cons_succ, List.getElem?_cons_zero]); rfl) (by rfl) ?_ (by exact hHeld) ?_
            rotate_left
            · (intro wq hSw; (try dsimp only at hSw); go_simp; (try with_reducible rfl))
            (try simp only [Act.put, List.setIfInBounds_toArray, List.set_cons_zero, List.set_cons_succ])
            refine h_list (i := 5) (by (simp only [List.getElem?_toArray, List.getElem?_cons_succ, List.getElem?_cons_zero]); rfl) ?_
            (((with_reducible refine q_bsI (d := some 36) (n := l[k]) ?_ ?_); rfl; intro W36 g36 hE36 hB36 hg36; replace hE36 := Ext.undrew hE36; have f1 := Ext.cell_some hE36 e1; have f2 := Ext.cell_some hE36 e2))
            clear hHeld; refine h_next ?_ (fun hHeld => ?_)
            · ((try dsimp only); (repeat' apply And.intro) <;> first | assumption | (refine Ext.cell_some (Ext.todrew (Ext.refl _)) ?_; assumption))
            (try simp only [Act.put, List.setIfInBounds_toArray, List.set_cons_zero, List.set_cons_succ])
            refine h_list (i := 10) (by (simp only [List.getElem?_toArray, List.getElem?_cons_succ, List.getElem?_cons_zero]); rfl) ?_
            ((refine q_appII (d := some 41) rfl (OwnI.of_blk hB36 hg36) rfl (hu.ints.ext hE36) (by have := Hm2.out; simp; omega) hE36.size ?_; intro v41 W41 hO41 hm41 hgr41; have hE41 := (show Ext _ W41 from Below.mono (hm41 _ hE36) (Nat.le_refl _)); have f3 := Ext.cell_some hE41 e1; have f4 := Ext.cell_some hE41 e2; obtain ⟨A41, c41, e41, _, _, _⟩ := hO41.ints; subst e41))
            clear hHeld; refine h_next ?_ (fun hHeld => ?_)
            · ((try dsimp only); (repeat' apply And.intro) <;> first | assumption | (refine Ext.cell_some (Ext.todrew (Ext.refl _)) ?_; assumption))
            (try simp only [Act.put, List.setIfInBounds_toArray, List.set_cons_zero, List.set_cons_succ])
            refine h_list (i := 11) (by (simp only [List.getElem?_toArray, List.getElem?_cons_succ, List.getElem?_cons_zero]); rfl) ?_
            (((with_reducible refine q_bsSS (d := some 42) (A := A41) (n := ([l[k]] ++ cs[n]).length) (c := c41) ?_ ?_); rfl; intro W42 g42 hE42 hB42 hg42; have f5 := Ext.cell_some hE42 f3; have f6 := Ext.cell_some hE42 f4; have hE43 := Ext.trans hE41 hE42; have hP2 := hP.ext hE43; have hN2 := hN.ext hE43; have hA2 := hAp'.ext hE43; have hv2 := (IntB.of_own hO41).ext hE42))
            clear hHeld; refine h_next ?_ (fun hHeld => ?_)
            · ((try dsimp only); (repeat' apply And.intro) <;> first | assumption | (refine Ext.cell_some (Ext.todrew (Ext.refl _)) ?_; assumption))
            (try simp only [Act.put, List.setIfInBounds_toArray, List.set_cons_zero, List.set_cons_succ])
            refine h_list (i := 12) (by (simp only [List.getElem?_toArray, List.getElem?_cons_succ, List.getElem?_cons_zero]); rfl) ?_
            ((refine q_appSSS (d := some 43) rfl hP2 rfl hB42 hv2 (by have := Hfl.out n; omega) (by have := hEs.size; have := hE43.size; omega) ?_; intro v' W43 hO' hmono hgr h7; have hE44 := hmono _ (hEs.trans hE43); have f7 := (HcI.out.ext hE44).i hlt; have f8 := hA2.cell hgr f6; have hN3 := hN2.kept hP2 hA2 hgr; have hA3 := hA2.app hgr h7 hO'.lt))
            clear hHeld; refine h_next ?_ (fun hHeld => ?_)
            · ((try dsimp only); (repeat' apply And.intro) <;> first | assumption | (refine Ext.cell_some (Ext.todrew (Ext.refl _)) ?_; assumption))
            (try simp only [Act.put, List.setIfInBounds_toArray, List.set_cons_zero, List.set_cons_succ])
            refine h_take (i := 13) (v := ?_) (by (simp only [List.getElem?_toArray, List.getElem?_cons_succ, List.getElem?_cons_zero]); rfl) (by rfl) ?_ (by exact hHeld) ?_
            rotate_left
            · (intro wq hSw; (try dsimp only at hSw); go_simp; (try with_reducible rfl))
            (try simp only [Act.put, List.setIfInBounds_toArray, List.set_cons_zero, List.set_cons_succ])
            refine h_done ?_
            go_wp2
            go_roundw
            case rel => exact ⟨hE44, n + 1, by omega, by go_num, by rw [Hs.out]; exact hO', hN3, hA3⟩
            case measure => simp [intOf]; omega
          · obtain rfl : n = cs.length := by omega
            rw [Hend.out] at hP
            go_wp2
            go_roundw
            case rel => exact ⟨hEs, k + 1, by omega, by go_num, hP⟩
            case measure => simp [intOf]; omega
      · obtain rfl : k = l.length := by omega
        rw [front_all] at hO
        clear h4
        go_wp2
        go_ret
        exact ⟨_, rfl, hO, hEr⟩
end Go.Bp
end
section
/- Plain Lean: the whole tests that fit a sheet, line by line, and by a search that gives up early. -/
namespace Go.Bp
open Go.RowKit
def allTo (k : Nat) : List Int := (List.range k).map fun i : Nat => (i : Int)
theorem allTo_succ (k : Nat) : allTo (k + 1) = allTo k ++ [(k : Int)] := by simp [allTo, List.range_succ]
theorem allTo_len (k : Nat) : (allTo k).length = k := by simp [allTo]
theorem mem_allTo {k : Nat} {x : Int} : x ∈ allTo k ↔ 0 ≤ x ∧ x < k := by
  simp only [allTo, List.mem_map, List.mem_range]
  constructor
  · rintro ⟨i, hi, rfl⟩; omega
  · intro h; exact ⟨x.toNat, by omega, by omega⟩
/-- What can be written on line n, as the first lines that were kept say. -/
def canTo (c : Code) (l : List Line) (n : Int) : List Int := l.foldl (fun acc x => if x.no = n then [x.what] else acc) (allTo c.things)
theorem canTo_succ (c : Code) (l : List Line) (n : Int) {k : Nat} (hk : k < l.length) : canTo c (l.take (k + 1)) n = if l[k].no = n then [l[k].what] else canTo c (l.take k) n := by
  unfold canTo; rw [take_snoc _ hk, List.foldl_append]; rfl
theorem fold_len (n : Int) : ∀ (l : List Line) (acc : List Int), (l.foldl (fun acc x => if x.no = n then [x.what] else acc) acc).length = if keptB l n = true then 1 else acc.length
  | [], acc => by simp [keptB]
  | x :: l, acc => by
    rw [List.foldl_cons, fold_len n l]
    by_cases h : x.no = n <;> by_cases h2 : keptB l n = true <;> simp_all [keptB]
theorem canTo_len (c : Code) (l : List Line) (n : Int) : (canTo c l n).length = if keptB l n = true then 1 else c.things := by
  unfold canTo; rw [fold_len, allTo_len]
theorem fold_mem (n : Int) : ∀ (l : List Line) (acc : List Int) (w : Int), w ∈ l.foldl (fun acc x => if x.no = n then [x.what] else acc) acc → w ∈ acc ∨ ∃ x ∈ l, w = x.what
  | [], acc, w, h => .inl h
  | x :: l, acc, w, h => by
    rw [List.foldl_cons] at h
    rcases fold_mem n l _ w h with h | ⟨y, hy, e⟩
    · by_cases hx : x.no = n
      · rw [if_pos hx] at h; right; exact ⟨x, by simp, by simpa using h⟩
      · rw [if_neg hx] at h; exact .inl h
    · right; exact ⟨y, by simp [hy], e⟩
theorem canTo_ok {c : Code} {l : List Line} {n m : Int} (hl : ∀ x ∈ l, LineOk c m x) : ∀ w ∈ canTo c l n, 0 ≤ w ∧ w < c.things := by
  intro w hw
  rcases fold_mem n l _ w hw with h | ⟨x, hx, rfl⟩
  · exact mem_allTo.1 h
  · exact ⟨(hl x hx).what1, (hl x hx).what2⟩
/-- A list of lists, each made longer by each of some numbers. -/
def moreTo (l : List (List Int)) (can : List Int) (k : Nat) : List (List Int) := (l.take k).flatMap fun t => can.map fun w => t ++ [w]
def rowAt (l : List (List Int)) (k : Nat) : List Int := l.getD k []
theorem rowAt_eq {l : List (List Int)} {k : Nat} (hk : k < l.length) : rowAt l k = l[k] := by simp [rowAt, List.getD, hk]
def moreJ (l : List (List Int)) (can : List Int) (k j : Nat) : List (List Int) := moreTo l can k ++ (can.take j).map fun w => rowAt l k ++ [w]
theorem moreJ_zero (l : List (List Int)) (can : List Int) (k : Nat) : moreJ l can k 0 = moreTo l can k := by simp [moreJ]
theorem moreJ_succ {l : List (List Int)} {can : List Int} {k j : Nat} (hk : k < l.length) (hj : j < can.length) : moreJ l can k (j + 1) = moreJ l can k j ++ [l[k] ++ [can[j]]] := by
  unfold moreJ
  rw [take_snoc _ hj, List.map_append, List.append_assoc, rowAt_eq hk]; rfl
theorem moreJ_all {l : List (List Int)} {can : List Int} {k : Nat} (hk : k < l.length) : moreJ l can k can.length = moreTo l can (k + 1) := by
  unfold moreJ moreTo
  rw [List.take_length, take_snoc _ hk, List.flatMap_append, rowAt_eq hk]; simp
theorem flat_len {α : Type} {m : Nat} {f : α → List (List Int)} (hf : ∀ t, (f t).length = m) : ∀ l : List α, (l.flatMap f).length = l.length * m
  | [] => by simp
  | x :: l => by rw [List.flatMap_cons, List.length_append, hf, flat_len hf l, List.length_cons, Nat.succ_mul, Nat.add_comm]
theorem moreTo_len (l : List (List Int)) (can : List Int) {k : Nat} (hk : k ≤ l.length) : (moreTo l can k).length = k * can.length := by
  unfold moreTo
  rw [flat_len (m := can.length) (fun t => by simp), List.length_take, Nat.min_eq_left hk]
theorem moreJ_len (l : List (List Int)) (can : List Int) {k j : Nat} (hk : k < l.length) : (moreJ l can k j).length ≤ l.length * can.length := by
  unfold moreJ
  rw [List.length_append, moreTo_len l can (by omega), List.length_map, List.length_take]
  have h1 : min j can.length ≤ can.length := Nat.min_le_right _ _
  have h2 : (k + 1) * can.length ≤ l.length * can.length := Nat.mul_le_mul_right _ hk
  rw [Nat.succ_mul] at h2
  omega
/-- The first n lines of the tests. -/
def prods (c : Code) (l : List Line) : Nat → List (List Int)
  | 0 => [[]]
  | n + 1 => (prods c l n).flatMap fun t => (canTo c l ((n : Int) + 1)).map fun w => t ++ [w]
theorem prods_succ (c : Code) (l : List Line) (n : Nat) : prods c l (n + 1) = moreTo (prods c l n) (canTo c l ((n : Int) + 1)) (prods c l n).length := by
  unfold moreTo; rw [List.take_length]; rfl
theorem prods_len {c : Code} (ho : c.Ok) (l : List Line) : ∀ n, (prods c l n).length ≤ 9 ^ (lostTo l n).length
  | 0 => by simp only [prods, List.length_singleton]; exact Nat.pow_pos (by decide)
  | n + 1 => by
    have ih := prods_len ho l n
    rw [prods_succ, moreTo_len _ _ (Nat.le_refl _), canTo_len, lostTo_succ]
    have h9 := ho.thing9
    by_cases h : keptB l ((n : Int) + 1) = true
    · rw [if_pos h, if_pos h, Nat.mul_one]; exact ih
    · rw [if_neg h, if_neg h, List.length_append, List.length_singleton, Nat.pow_succ]
      exact Nat.mul_le_mul ih h9
theorem prods_ok {c : Code} {l : List Line} {m : Int} (hl : ∀ x ∈ l, LineOk c m x) : ∀ n, ∀ t ∈ prods c l n, t.length = n ∧ ∀ x ∈ t, 0 ≤ x ∧ x < c.things
  | 0 => by intro t ht; simp [prods] at ht; subst ht; simp
  | n + 1 => by
    intro t ht
    simp only [prods, List.mem_flatMap, List.mem_map] at ht
    obtain ⟨u, hu, w, hw, rfl⟩ := ht
    obtain ⟨h1, h2⟩ := prods_ok hl n u hu
    refine ⟨by simp [h1], fun x hx => ?_⟩
    rcases List.mem_append.1 hx with hx | hx
    · exact h2 x hx
    · simp at hx; subst hx; exact canTo_ok hl _ hw
/-- All whole tests that fit a sheet. -/
def tests (c : Code) (s : Sheet) : List (List Int) := (prods c s.kept s.lines.toNat).filter (fits c s)
def testsTo (c : Code) (s : Sheet) (l : List (List Int)) (k : Nat) : List (List Int) := (l.take k).filter (fits c s)
theorem testsTo_succ (c : Code) (s : Sheet) (l : List (List Int)) {k : Nat} (hk : k < l.length) : testsTo c s l (k + 1) = if fits c s l[k] = true then testsTo c s l k ++ [l[k]] else testsTo c s l k := by
  unfold testsTo
  rw [take_snoc _ hk, List.filter_append]
  by_cases h : fits c s l[k] = true <;> simp [h]
theorem testsTo_len (c : Code) (s : Sheet) (l : List (List Int)) (k : Nat) : (testsTo c s l k).length ≤ k := by
  unfold testsTo
  have := List.length_filter_le (fits c s) (l.take k)
  rw [List.length_take] at this; omega
theorem lostTo_mono (l : List Line) {n : Nat} : ∀ m, n ≤ m → (lostTo l n).length ≤ (lostTo l m).length
  | 0, h => by have : n = 0 := by omega
               subst this; exact Nat.le_refl _
  | m + 1, h => by
    by_cases e : n = m + 1
    · subst e; exact Nat.le_refl _
    · have := lostTo_mono l (n := n) m (by omega)
      rw [lostTo_succ]
      split
      · exact this
      · rw [List.length_append]; omega
theorem prods_729 {c : Code} {s : Sheet} (ho : c.Ok) (hs : s.Ok c) {n : Nat} (hn : n ≤ s.lines.toNat) : (prods c s.kept n).length ≤ 729 := by
  have h1 := prods_len ho s.kept n
  have h2 : (lostTo s.kept n).length ≤ 3 := by
    have := hs.lost3
    rw [lost_eq] at this
    have h3 := lostTo_mono s.kept s.lines.toNat hn
    omega
  have h3 : 9 ^ (lostTo s.kept n).length ≤ 9 ^ 3 := Nat.pow_le_pow_right (by decide) h2
  have : (9 : Nat) ^ 3 = 729 := rfl
  omega
theorem tests_mem {c : Code} {s : Sheet} (hs : s.Ok c) {t : List Int} (ht : t ∈ tests c s) : c.TestOk t ∧ (t.length : Int) = s.lines ∧ fits c s t = true := by
  unfold tests at ht
  obtain ⟨h1, h2⟩ := List.mem_filter.1 ht
  obtain ⟨h3, h4⟩ := prods_ok hs.line _ t h1
  have := hs.l1; have := hs.l2
  exact ⟨⟨by omega, h4⟩, by omega, h2⟩
theorem tests_len {c : Code} {s : Sheet} (ho : c.Ok) (hs : s.Ok c) : (tests c s).length ≤ 729 := by
  unfold tests
  have h1 := List.length_filter_le (fits c s) (prods c s.kept s.lines.toNat)
  have h2 := prods_729 ho hs (Nat.le_refl _)
  omega
/-! ### the search that gives up early -/
def keptAt (l : List Line) (n : Int) : Option Line := l.foldl (fun acc x => if x.no = n then some x else acc) none
def goesOn (c : Code) (l : List Line) (p : List Int) (w : Int) : Bool := match keptAt l ((p.length : Int) + 1) with | some x => decide (w = x.what) && decide (c.total (p ++ [w]) = x.sum) | none => true
def dfs (c : Code) (l : List Line) : Nat → List Int → List (List Int)
  | 0, p => [p]
  | r + 1, p => (allTo c.things).flatMap fun w => if goesOn c l p w = true then dfs c l r (p ++ [w]) else []
def dfsTo (c : Code) (l : List Line) (r : Nat) (p : List Int) (k : Nat) : List (List Int) := (allTo k).flatMap fun w => if goesOn c l p w = true then dfs c l r (p ++ [w]) else []
theorem dfsTo_succ (c : Code) (l : List Line) (r : Nat) (p : List Int) (k : Nat) : dfsTo c l r p (k + 1) = dfsTo c l r p k ++ if goesOn c l p k = true then dfs c l r (p ++ [(k : Int)]) else [] := by
  simp [dfsTo, allTo_succ]
theorem dfs_succ (c : Code) (l : List Line) (r : Nat) (p : List Int) : dfs c l (r + 1) p = dfsTo c l r p c.things := rfl
end Go.Bp
end
