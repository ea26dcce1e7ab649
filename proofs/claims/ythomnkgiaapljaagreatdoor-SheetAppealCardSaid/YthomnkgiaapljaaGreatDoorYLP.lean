import Derived.Test.YthomnkgiaapljaaGreatDoorD10
set_option maxRecDepth 100000
set_option linter.unusedSimpArgs false
set_option linter.unusedVariables false
namespace Go.Bp
open Go.RowKit Go.Proofs
/-- What the law's last loop looks at. -/
theorem sub_numbers {l : List Int} {m : Nat} (h : l.Sublist (numbers m)) : (∀ k (hk : k < l.length), 1 ≤ l[k] ∧ l[k] ≤ m) ∧ ∀ k (hk : k + 1 < l.length), l[k] < l[k + 1] := by
  refine ⟨fun k hk => mem_numbers.1 (h.subset (List.getElem_mem hk)), fun k hk => ?_⟩
  have := (numbers_sorted m).sublist h
  rw [List.pairwise_iff_getElem] at this
  exact this k (k + 1) (by omega) hk (by omega)
set_option maxHeartbeats 16000000 in
theorem LAppeal (cv xv : Value) (c : Code) (x : Driven) (b : Int) (w : World) (h : CodeV w cv c) (hx : DrivenV w xv x) (hb : 0 ≤ b ∧ b ≤ 65535) (hv : Env w) :
    Calls Tryz.prog 15 #[cv, xv, .int .u16 b] w fun e w' => e = .returned (.bool true) ∧ Ext w w' := by
  obtain ⟨fv, mv, rfl, hF, hM, hW⟩ := h
  have hE := Ext.refl w
  have HW := Lib.hid hW
  clear hW
  obtain ⟨wv, rfl, hT, hxo⟩ := hx
  obtain ⟨AT, cT, rfl, _, _, _, _⟩ := id hT
  have hD : DrivenV w (.agg #[.int .u8 x.lines, .slice AT x.what.length cT, .int .u16 x.lost]) x := ⟨_, rfl, hT, hxo⟩
  obtain ⟨⟨y1, y2, er⟩, h1⟩ : ∃ x, c.check = x := ⟨_, rfl⟩
  have H1 := Lib.hid h1
  by_cases he : er = 0
  · have ho := Code.ok_of_check (show c.check.2.2 = 0 by rw [h1]; exact he)
    subst he
    have hd := hxo.drove ho
    obtain ⟨t, ht⟩ : ∃ t, x.test c = t := ⟨_, rfl⟩
    rw [ht] at hd
    have htk := hd.test
    have ht1 := hd.one
    have htl := htk.1
    obtain ⟨h2, h3⟩ := appeal_law ho htk ht1 b
    have hany := anyTo_len b t.length
    obtain ⟨any, hay⟩ : ∃ l, anyTo b t.length = l := ⟨_, rfl⟩
    obtain ⟨⟨lf, fa⟩, hwo⟩ : ∃ y, without c t any = y := ⟨_, rfl⟩
    have hlf : c.TestOk lf := by have := left_ok (ls := any) htk; rw [hwo] at this; exact this
    obtain ⟨pa, hpa⟩ : ∃ p, c.passed lf = p := ⟨_, rfl⟩
    obtain ⟨p, hp⟩ : ∃ p, c.passed t = p := ⟨_, rfl⟩
    rw [hay, hwo, hp] at h3
    simp only at h3
    rw [hpa] at h3
    rw [hp] at h2
    rw [hay] at hany
    have Ht := Lib.hid ht; have Hj := Lib.hid h2; have Hlf := Lib.hid hlf; have Hpa := Lib.hid hpa; have Htk := Lib.hid htk; have Ho := Lib.hid ho; have Hwo := Lib.hid hwo; have Hay := Lib.hid hay; have Htl := Lib.hid htl
    clear h1 h2 ht hd hp hpa hlf htk ho hwo hay hxo hT
    rcases h3 with ⟨l, g1, g2, g3, g4, g5, g6⟩ | ⟨g1, rfl, g2⟩
    · have hln := sub_numbers g2
      have hll := g2.length_le
      rw [numbers_len] at hll
      obtain ⟨⟨lg, fb⟩, hwl⟩ : ∃ y, without c t l = y := ⟨_, rfl⟩
      have hlg : c.TestOk lg := by have := left_ok (ls := l) Htk.out; rw [hwl] at this; exact this
      rw [hwl] at g4 g5
      simp only at g4 g5
      subst g4
      have Hapl := Lib.hid g1; have Hwl := Lib.hid hwl; have Hlg := Lib.hid hlg; have Hpg := Lib.hid g5; have Hln := Lib.hid hln
      have hm50 : True := trivial
      have hm51 : True := trivial
      have hq3 : fa = false ∨ (fa = true ∧ pa = false) ∨ (fa = true ∧ pa = true ∧ ¬ (any.length < l.length)) := by
        cases hfa : fa
        · exact .inl rfl
        · cases hpa : pa
          · exact .inr (.inl ⟨rfl, rfl⟩)
          · exact .inr (.inr ⟨rfl, rfl, by have := g6 hfa hpa; omega⟩)
      clear g1 g2 g5 g6 hwl hlg hln
      by_cases hl0 : l = []
      · have hpt := g3.2 hl0
        have hl00 : (l.length : Int) = 0 := by rw [hl0]; rfl
        have hl0n := Lib.hid (show l.length = 0 by rw [hl0]; rfl)
        subst hpt
        clear g3 hl0
        go_enter Tryz.func15, Tryz.ntmps15
        go_wp2_with (first | ((go_at_call 18; refine (RCheck_any _ c _ (CodeV.of hF hM HW.out)).mono ?_; rw [H1.out]; rintro e Wc ⟨rfl, hEx⟩; (try replace hE := Ext.trans hE hEx); (try replace hF := hF.ext hEx); (try replace hM := hM.ext hEx); (try replace hT := hT.ext hEx); (try replace hI1 := hI1.ext hEx); (try replace hI2 := hI2.ext hEx); (try replace hB3 := hB3.ext hEx); (try replace hB4 := hB4.ext hEx); (try replace hI12 := hI12.ext hEx); (try replace hA := hA.ext hEx); (try replace h18 := h18.ext hEx); (try replace hD := hD.ext hEx); (try replace hb3_0 := Ext.cell_some hEx hb3_0); (try replace hb3_1 := Ext.cell_some hEx hb3_1); (try replace hb3_2 := Ext.cell_some hEx hb3_2); (try replace hb4_0 := Ext.cell_some hEx hb4_0); (try replace hb4_1 := Ext.cell_some hEx hb4_1); (try replace hb4_2 := Ext.cell_some hEx hb4_2); clear hEx)) | ((go_at_call 44; refine (Whole_any _ _ c x _ (CodeV.of hF hM HW.out) hD Ho.out).mono ?_; rintro e Wc ⟨v1, v2, rfl, ⟨hI1, hI2⟩, hEx⟩; rw [Ht.out] at hI1; (try replace hE := Ext.trans hE hEx); (try replace hF := hF.ext hEx); (try replace hM := hM.ext hEx); (try replace hT := hT.ext hEx); (try replace hB3 := hB3.ext hEx); (try replace hB4 := hB4.ext hEx); (try replace hI12 := hI12.ext hEx); (try replace hA := hA.ext hEx); (try replace h18 := h18.ext hEx); (try replace hD := hD.ext hEx); (try replace hb3_0 := Ext.cell_some hEx hb3_0); (try replace hb3_1 := Ext.cell_some hEx hb3_1); (try replace hb3_2 := Ext.cell_some hEx hb3_2); (try replace hb4_0 := Ext.cell_some hEx hb4_0); (try replace hb4_1 := Ext.cell_some hEx hb4_1); (try replace hb4_2 := Ext.cell_some hEx hb4_2); clear hEx; obtain ⟨A1, c1, hve1, _, _, _, _⟩ := hI1.ints; subst hve1; obtain ⟨A2, c2, hve2, _, _, _, _⟩ := hI2.ints; subst hve2)) | ((go_at_call 21; refine (PAppeal_any _ _ c t _ (CodeV.of hF hM HW.out) hI1.ints).mono ?_; rw [Hapl.out]; rintro e Wc ⟨v12, rfl, hI12, hEx⟩; (try replace hE := Ext.trans hE hEx); (try replace hF := hF.ext hEx); (try replace hM := hM.ext hEx); (try replace hT := hT.ext hEx); (try replace hI1 := hI1.ext hEx); (try replace hI2 := hI2.ext hEx); (try replace hB3 := hB3.ext hEx); (try replace hB4 := hB4.ext hEx); (try replace hA := hA.ext hEx); (try replace h18 := h18.ext hEx); (try replace hD := hD.ext hEx); (try replace hb3_0 := Ext.cell_some hEx hb3_0); (try replace hb3_1 := Ext.cell_some hEx hb3_1); (try replace hb3_2 := Ext.cell_some hEx hb3_2); (try replace hb4_0 := Ext.cell_some hEx hb4_0); (try replace hb4_1 := Ext.cell_some hEx hb4_1); (try replace hb4_2 := Ext.cell_some hEx hb4_2); clear hEx; obtain ⟨A12, c12, hve12, _, _, _, _⟩ := hI12.ints; subst hve12)) | ((go_at_call 19; refine (PJudge_any _ _ c t _ (CodeV.of hF hM HW.out) hI1.ints).mono ?_; rw [Hj.out]; rintro e WcJ ⟨rfl, hEx⟩; (try replace hE := Ext.trans hE hEx); (try replace hF := hF.ext hEx); (try replace hM := hM.ext hEx); (try replace hT := hT.ext hEx); (try replace hI1 := hI1.ext hEx); (try replace hI2 := hI2.ext hEx); (try replace hB3 := hB3.ext hEx); (try replace hB4 := hB4.ext hEx); (try replace hI12 := hI12.ext hEx); (try replace hA := hA.ext hEx); (try replace h18 := h18.ext hEx); (try replace hD := hD.ext hEx); (try replace hb3_0 := Ext.cell_some hEx hb3_0); (try replace hb3_1 := Ext.cell_some hEx hb3_1); (try replace hb3_2 := Ext.cell_some hEx hb3_2); (try replace hb4_0 := Ext.cell_some hEx hb4_0); (try replace hb4_1 := Ext.cell_some hEx hb4_1); (try replace hb4_2 := Ext.cell_some hEx hb4_2); clear hEx)) | ((with_reducible refine q_box (d := some 3) ?_); intro W3 g3 hE3 hB3 hg3; simp [Act.eval, Act.put, Value.cells] at hB3; (try replace hE := hE.trans hE3); (try replace hF := hF.ext hE3); (try replace hM := hM.ext hE3); (try replace hD := hD.ext hE3); (try replace hI1 := hI1.ext hE3); (try replace hI2 := hI2.ext hE3); (try replace hI12 := hI12.ext hE3); (try replace hB3 := hB3.ext hE3); (try replace hB4 := hB4.ext hE3); (try replace hb3_0 := Ext.cell_some hE3 hb3_0); (try replace hb3_1 := Ext.cell_some hE3 hb3_1); (try replace hb3_2 := Ext.cell_some hE3 hb3_2); (try replace hb4_0 := Ext.cell_some hE3 hb4_0); (try replace hb4_1 := Ext.cell_some hE3 hb4_1); (try replace hb4_2 := Ext.cell_some hE3 hb4_2); have hb3_0 := hB3.cell 0; have hb3_1 := hB3.cell 1; have hb3_2 := hB3.cell 2; simp at hb3_0 hb3_1 hb3_2; clear hE3) | ((with_reducible refine q_box (d := some 4) ?_); intro W4 g4 hE4 hB4 hg4; simp [Act.eval, Act.put, Value.cells] at hB4; (try replace hE := hE.trans hE4); (try replace hF := hF.ext hE4); (try replace hM := hM.ext hE4); (try replace hD := hD.ext hE4); (try replace hI1 := hI1.ext hE4); (try replace hI2 := hI2.ext hE4); (try replace hI12 := hI12.ext hE4); (try replace hB3 := hB3.ext hE4); (try replace hB4 := hB4.ext hE4); (try replace hb3_0 := Ext.cell_some hE4 hb3_0); (try replace hb3_1 := Ext.cell_some hE4 hb3_1); (try replace hb3_2 := Ext.cell_some hE4 hb3_2); (try replace hb4_0 := Ext.cell_some hE4 hb4_0); (try replace hb4_1 := Ext.cell_some hE4 hb4_1); (try replace hb4_2 := Ext.cell_some hE4 hb4_2); have hb4_0 := hB4.cell 0; have hb4_1 := hB4.cell 1; have hb4_2 := hB4.cell 2; simp at hb4_0 hb4_1 hb4_2; clear hE4))
        have HF := Lib.hid hF; have HM := Lib.hid hM; have HI1 := Lib.hid hI1; have HI12 := Lib.hid hI12; have kk30 := Lib.hid hb3_0; have kk31 := Lib.hid hb3_1; have kk32 := Lib.hid hb3_2
        clear hF hM hD hI2 hI1 hI12 hb3_0 hb3_1 hb3_2
        (try clear hl01)
        go_loopw [16, 17] (fun v i Wr => Ext WcJ Wr ∧ ∃ k : Nat, k ≤ t.length ∧ i = .int .i64 k ∧ OwnI WcJ.heap.size Wr v (anyTo b k)) (fun _ i _ => t.length - (intOf i).toNat)
        case atStart => exact ⟨Ext.refl _, 0, by omega, rfl, OwnI.nil _ _⟩
        case round =>
          obtain ⟨hEr, k, hk, rfl, hO⟩ := hrel
          have hk12 : k ≤ 12 := by have := Htl.out; omega
          by_cases hlt : k < t.length
          · have z2 : IntKind.i64.wrap ((k : Int) + 1) = (k : Int) + 1 := IntWalk.i64_in _ (by omega)
            have Hs := Lib.hid (anyTo_succ b k)
            have Hcl := Lib.hid (anyTo_len b k)
            have hmn : min k 16 = k := by omega
            cases hb : bitW b k with
            | false =>
              have Hs2 := Lib.hid (show anyTo b (k + 1) = anyTo b k by rw [Hs.out, hb]; rfl)
              have hq : ¬ (b / 2 ^ k).tmod 2 = 1 := by unfold bitW at hb; rw [hmn] at hb; simpa using hb
              clear hb hmn
              go_wp2
              go_roundw
              case rel => exact ⟨hEr, k + 1, by omega, by go_num, by rw [Hs2.out]; exact hO⟩
              case measure => simp [intOf]; omega
            | true =>
              have Hs2 := Lib.hid (show anyTo b (k + 1) = anyTo b k ++ [(k : Int) + 1] by rw [Hs.out, hb]; rfl)
              have hq : (b / 2 ^ k).tmod 2 = 1 := by unfold bitW at hb; rw [hmn] at hb; simpa using hb
              clear hb hmn
              go_wp2_with (first | ((with_reducible refine q_bsI (d := some 93) (n := (k : Int) + 1) ?_ ?_); (first | rfl | go_num); intro W26 g26 hE26 hB26 hg26; replace hEr := Ext.trans hEr hE26; replace hO := OwnI.ext hO hE26) | ((with_reducible refine q_appI (d := some 94) ?_ hO ?_ hB26 ?_ ?_ ?_); rfl; rfl; (have := Hcl.out; omega); exact hEr.size; intro v27 W27 hO27 hm27 hgr27; replace hEr := hm27 _ hEr))
              go_roundw
              case rel => exact ⟨hEr, k + 1, by omega, by go_num, by rw [Hs2.out]; exact hO27⟩
              case measure => simp [intOf]; omega
          · obtain rfl : k = t.length := by omega
            rw [Hay.out] at hO
            have hA := hO
            have hF := HF.out.ext hEr; have hM := HM.out.ext hEr; have hI1 := HI1.out.ext hEr; have hI12 := HI12.out.ext hEr
            have hb3_0 := Ext.cell_some hEr kk30.out; have hb3_1 := Ext.cell_some hEr kk31.out; have hb3_2 := Ext.cell_some hEr kk32.out
            replace hE := Ext.trans hE hEr
            obtain ⟨A16, c16, hve16, _, _, _, _⟩ := hA.ints
            subst hve16
            clear HF HM HI1 HI12 hEr hO
            rcases hq3 with rfl | ⟨rfl, rfl⟩ | ⟨rfl, rfl, hq3⟩
            · skip
              go_wp2_with (first | ((go_at_call 50; (refine (Without_any _ _ _ c t any _ (CodeV.of hF hM HW.out) hI1.ints hA.ints (by have := Htl.out; omega)).mono ?_; rw [Hwo.out]; rintro e Wc ⟨v18, rfl, h18, hEx⟩; (try replace hE := Ext.trans hE hEx); (try replace hF := hF.ext hEx); (try replace hM := hM.ext hEx); (try replace hT := hT.ext hEx); (try replace hI1 := hI1.ext hEx); (try replace hI2 := hI2.ext hEx); (try replace hB3 := hB3.ext hEx); (try replace hB4 := hB4.ext hEx); (try replace hI12 := hI12.ext hEx); (try replace hA := hA.ext hEx); (try replace hD := hD.ext hEx); (try replace hb3_0 := Ext.cell_some hEx hb3_0); (try replace hb3_1 := Ext.cell_some hEx hb3_1); (try replace hb3_2 := Ext.cell_some hEx hb3_2); (try replace hb4_0 := Ext.cell_some hEx hb4_0); (try replace hb4_1 := Ext.cell_some hEx hb4_1); (try replace hb4_2 := Ext.cell_some hEx hb4_2); clear hEx; obtain ⟨A18, c18, hve18, _, _, _, _⟩ := h18.ints; subst hve18))) | ((with_reducible refine q_box (d := some 3) ?_); intro W3 g3 hE3 hB3 hg3; simp [Act.eval, Act.put, Value.cells] at hB3; (try replace hE := hE.trans hE3); (try replace hF := hF.ext hE3); (try replace hM := hM.ext hE3); (try replace hD := hD.ext hE3); (try replace hI1 := hI1.ext hE3); (try replace hI2 := hI2.ext hE3); (try replace hI12 := hI12.ext hE3); (try replace hB3 := hB3.ext hE3); (try replace hB4 := hB4.ext hE3); (try replace hb3_0 := Ext.cell_some hE3 hb3_0); (try replace hb3_1 := Ext.cell_some hE3 hb3_1); (try replace hb3_2 := Ext.cell_some hE3 hb3_2); (try replace hb4_0 := Ext.cell_some hE3 hb4_0); (try replace hb4_1 := Ext.cell_some hE3 hb4_1); (try replace hb4_2 := Ext.cell_some hE3 hb4_2); have hb3_0 := hB3.cell 0; have hb3_1 := hB3.cell 1; have hb3_2 := hB3.cell 2; simp at hb3_0 hb3_1 hb3_2; clear hE3) | ((with_reducible refine q_box (d := some 4) ?_); intro W4 g4 hE4 hB4 hg4; simp [Act.eval, Act.put, Value.cells] at hB4; (try replace hE := hE.trans hE4); (try replace hF := hF.ext hE4); (try replace hM := hM.ext hE4); (try replace hD := hD.ext hE4); (try replace hI1 := hI1.ext hE4); (try replace hI2 := hI2.ext hE4); (try replace hI12 := hI12.ext hE4); (try replace hB3 := hB3.ext hE4); (try replace hB4 := hB4.ext hE4); (try replace hb3_0 := Ext.cell_some hE4 hb3_0); (try replace hb3_1 := Ext.cell_some hE4 hb3_1); (try replace hb3_2 := Ext.cell_some hE4 hb3_2); (try replace hb4_0 := Ext.cell_some hE4 hb4_0); (try replace hb4_1 := Ext.cell_some hE4 hb4_1); (try replace hb4_2 := Ext.cell_some hE4 hb4_2); have hb4_0 := hB4.cell 0; have hb4_1 := hB4.cell 1; have hb4_2 := hB4.cell 2; simp at hb4_0 hb4_1 hb4_2; clear hE4))
              obtain ⟨AX, cX, hve, _, l2, _, l4⟩ := hI12.ints
              obtain ⟨rfl, rfl⟩ : A12 = AX ∧ c12 = cX := by simpa using hve
              unfold maxLen at l2
              clear hve
              (try clear hq3)
              have E0 := Lib.hid hE; have HF := Lib.hid hF; have HM := Lib.hid hM; have HI1 := Lib.hid hI1; have HI12 := Lib.hid hI12; have k30 := Lib.hid hb3_0; have k31 := Lib.hid hb3_1; have k32 := Lib.hid hb3_2
              clear hE hF hM hI1 hI12 hA h18 hb3_0 hb3_1 hb3_2
              go_loopw [20] (fun i Wr => Ext Wc Wr ∧ ∃ k : Nat, k ≤ l.length ∧ i = .int .i64 k) (fun i _ => l.length - (intOf i).toNat)
              case atStart => exact ⟨Ext.refl _, 0, by omega, rfl⟩
              case round =>
                obtain ⟨hEr, k, hk, rfl⟩ := hrel
                by_cases hlt : k < l.length
                · exact absurd hlt (by rw [hl0n.out]; omega)
                · obtain rfl : k = l.length := by omega
                  have hE := E0.out.trans hEr
                  have hF := HF.out.ext hEr; have hM := HM.out.ext hEr; have hI1 := HI1.out.ext hEr; have hI12 := HI12.out.ext hEr
                  have hb3_0 := Ext.cell_some hEr k30.out; have hb3_1 := Ext.cell_some hEr k31.out; have hb3_2 := Ext.cell_some hEr k32.out
                  clear E0 HF HM HI1 HI12 hEr
                  go_wp2_with (first | ((go_at_call 50; (refine (Without_any _ _ _ c t l _ (CodeV.of hF hM HW.out) hI1.ints hI12.ints (by have := Htl.out; omega)).mono ?_; rw [Hwl.out]; rintro e Wc ⟨v18, rfl, h18, hEx⟩; (try replace hE := Ext.trans hE hEx); (try replace hF := hF.ext hEx); (try replace hM := hM.ext hEx); (try replace hT := hT.ext hEx); (try replace hI1 := hI1.ext hEx); (try replace hI2 := hI2.ext hEx); (try replace hB3 := hB3.ext hEx); (try replace hB4 := hB4.ext hEx); (try replace hI12 := hI12.ext hEx); (try replace hA := hA.ext hEx); (try replace hD := hD.ext hEx); (try replace hb3_0 := Ext.cell_some hEx hb3_0); (try replace hb3_1 := Ext.cell_some hEx hb3_1); (try replace hb3_2 := Ext.cell_some hEx hb3_2); (try replace hb4_0 := Ext.cell_some hEx hb4_0); (try replace hb4_1 := Ext.cell_some hEx hb4_1); (try replace hb4_2 := Ext.cell_some hEx hb4_2); clear hEx; obtain ⟨A18, c18, hve18, _, _, _, _⟩ := h18.ints; subst hve18))) | ((go_at_call 51; (refine (RPassed_any _ _ c lg _ (CodeV.of hF hM HW.out) h18.ints Ho.out Hlg.out).mono ?_; rw [Hpg.out]; rintro e Wc ⟨rfl, hEx⟩; (try replace hE := Ext.trans hE hEx); (try replace hF := hF.ext hEx); (try replace hM := hM.ext hEx); (try replace hT := hT.ext hEx); (try replace hI1 := hI1.ext hEx); (try replace hI2 := hI2.ext hEx); (try replace hB3 := hB3.ext hEx); (try replace hB4 := hB4.ext hEx); (try replace hI12 := hI12.ext hEx); (try replace hA := hA.ext hEx); (try replace h18 := h18.ext hEx); (try replace hD := hD.ext hEx); (try replace hb3_0 := Ext.cell_some hEx hb3_0); (try replace hb3_1 := Ext.cell_some hEx hb3_1); (try replace hb3_2 := Ext.cell_some hEx hb3_2); (try replace hb4_0 := Ext.cell_some hEx hb4_0); (try replace hb4_1 := Ext.cell_some hEx hb4_1); (try replace hb4_2 := Ext.cell_some hEx hb4_2); clear hEx))) | ((go_at_call 24; refine (Awake_any _ (hv.ext hE)).mono ?_; rintro e Wc ⟨rfl, hEx⟩; (try replace hE := Ext.trans hE hEx); (try replace hF := hF.ext hEx); (try replace hM := hM.ext hEx); (try replace hT := hT.ext hEx); (try replace hI1 := hI1.ext hEx); (try replace hI2 := hI2.ext hEx); (try replace hB3 := hB3.ext hEx); (try replace hB4 := hB4.ext hEx); (try replace hb3_0 := Ext.cell_some hEx hb3_0); (try replace hb3_1 := Ext.cell_some hEx hb3_1); (try replace hb3_2 := Ext.cell_some hEx hb3_2); (try replace hb4_0 := Ext.cell_some hEx hb4_0); (try replace hb4_1 := Ext.cell_some hEx hb4_1); clear hEx)) | ((with_reducible refine q_box (d := some 3) ?_); intro W3 g3 hE3 hB3 hg3; simp [Act.eval, Act.put, Value.cells] at hB3; (try replace hE := hE.trans hE3); (try replace hF := hF.ext hE3); (try replace hM := hM.ext hE3); (try replace hD := hD.ext hE3); (try replace hI1 := hI1.ext hE3); (try replace hI2 := hI2.ext hE3); (try replace hI12 := hI12.ext hE3); (try replace hB3 := hB3.ext hE3); (try replace hB4 := hB4.ext hE3); (try replace hb3_0 := Ext.cell_some hE3 hb3_0); (try replace hb3_1 := Ext.cell_some hE3 hb3_1); (try replace hb3_2 := Ext.cell_some hE3 hb3_2); (try replace hb4_0 := Ext.cell_some hE3 hb4_0); (try replace hb4_1 := Ext.cell_some hE3 hb4_1); (try replace hb4_2 := Ext.cell_some hE3 hb4_2); have hb3_0 := hB3.cell 0; have hb3_1 := hB3.cell 1; have hb3_2 := hB3.cell 2; simp at hb3_0 hb3_1 hb3_2; clear hE3) | ((with_reducible refine q_box (d := some 4) ?_); intro W4 g4 hE4 hB4 hg4; simp [Act.eval, Act.put, Value.cells] at hB4; (try replace hE := hE.trans hE4); (try replace hF := hF.ext hE4); (try replace hM := hM.ext hE4); (try replace hD := hD.ext hE4); (try replace hI1 := hI1.ext hE4); (try replace hI2 := hI2.ext hE4); (try replace hI12 := hI12.ext hE4); (try replace hB3 := hB3.ext hE4); (try replace hB4 := hB4.ext hE4); (try replace hb3_0 := Ext.cell_some hE4 hb3_0); (try replace hb3_1 := Ext.cell_some hE4 hb3_1); (try replace hb3_2 := Ext.cell_some hE4 hb3_2); (try replace hb4_0 := Ext.cell_some hE4 hb4_0); (try replace hb4_1 := Ext.cell_some hE4 hb4_1); (try replace hb4_2 := Ext.cell_some hE4 hb4_2); have hb4_0 := hB4.cell 0; have hb4_1 := hB4.cell 1; have hb4_2 := hB4.cell 2; simp at hb4_0 hb4_1 hb4_2; clear hE4))
                  go_ret
                  exact ⟨rfl, hE⟩
            · skip
              go_wp2_with (first | ((go_at_call 50; (refine (Without_any _ _ _ c t any _ (CodeV.of hF hM HW.out) hI1.ints hA.ints (by have := Htl.out; omega)).mono ?_; rw [Hwo.out]; rintro e Wc ⟨v18, rfl, h18, hEx⟩; (try replace hE := Ext.trans hE hEx); (try replace hF := hF.ext hEx); (try replace hM := hM.ext hEx); (try replace hT := hT.ext hEx); (try replace hI1 := hI1.ext hEx); (try replace hI2 := hI2.ext hEx); (try replace hB3 := hB3.ext hEx); (try replace hB4 := hB4.ext hEx); (try replace hI12 := hI12.ext hEx); (try replace hA := hA.ext hEx); (try replace hD := hD.ext hEx); (try replace hb3_0 := Ext.cell_some hEx hb3_0); (try replace hb3_1 := Ext.cell_some hEx hb3_1); (try replace hb3_2 := Ext.cell_some hEx hb3_2); (try replace hb4_0 := Ext.cell_some hEx hb4_0); (try replace hb4_1 := Ext.cell_some hEx hb4_1); (try replace hb4_2 := Ext.cell_some hEx hb4_2); clear hEx; obtain ⟨A18, c18, hve18, _, _, _, _⟩ := h18.ints; subst hve18))) | ((go_at_call 51; (refine (RPassed_any _ _ c lf _ (CodeV.of hF hM HW.out) h18.ints Ho.out Hlf.out).mono ?_; rw [Hpa.out]; rintro e Wc ⟨rfl, hEx⟩; (try replace hE := Ext.trans hE hEx); (try replace hF := hF.ext hEx); (try replace hM := hM.ext hEx); (try replace hT := hT.ext hEx); (try replace hI1 := hI1.ext hEx); (try replace hI2 := hI2.ext hEx); (try replace hB3 := hB3.ext hEx); (try replace hB4 := hB4.ext hEx); (try replace hI12 := hI12.ext hEx); (try replace hA := hA.ext hEx); (try replace h18 := h18.ext hEx); (try replace hD := hD.ext hEx); (try replace hb3_0 := Ext.cell_some hEx hb3_0); (try replace hb3_1 := Ext.cell_some hEx hb3_1); (try replace hb3_2 := Ext.cell_some hEx hb3_2); (try replace hb4_0 := Ext.cell_some hEx hb4_0); (try replace hb4_1 := Ext.cell_some hEx hb4_1); (try replace hb4_2 := Ext.cell_some hEx hb4_2); clear hEx))) | ((with_reducible refine q_box (d := some 3) ?_); intro W3 g3 hE3 hB3 hg3; simp [Act.eval, Act.put, Value.cells] at hB3; (try replace hE := hE.trans hE3); (try replace hF := hF.ext hE3); (try replace hM := hM.ext hE3); (try replace hD := hD.ext hE3); (try replace hI1 := hI1.ext hE3); (try replace hI2 := hI2.ext hE3); (try replace hI12 := hI12.ext hE3); (try replace hB3 := hB3.ext hE3); (try replace hB4 := hB4.ext hE3); (try replace hb3_0 := Ext.cell_some hE3 hb3_0); (try replace hb3_1 := Ext.cell_some hE3 hb3_1); (try replace hb3_2 := Ext.cell_some hE3 hb3_2); (try replace hb4_0 := Ext.cell_some hE3 hb4_0); (try replace hb4_1 := Ext.cell_some hE3 hb4_1); (try replace hb4_2 := Ext.cell_some hE3 hb4_2); have hb3_0 := hB3.cell 0; have hb3_1 := hB3.cell 1; have hb3_2 := hB3.cell 2; simp at hb3_0 hb3_1 hb3_2; clear hE3) | ((with_reducible refine q_box (d := some 4) ?_); intro W4 g4 hE4 hB4 hg4; simp [Act.eval, Act.put, Value.cells] at hB4; (try replace hE := hE.trans hE4); (try replace hF := hF.ext hE4); (try replace hM := hM.ext hE4); (try replace hD := hD.ext hE4); (try replace hI1 := hI1.ext hE4); (try replace hI2 := hI2.ext hE4); (try replace hI12 := hI12.ext hE4); (try replace hB3 := hB3.ext hE4); (try replace hB4 := hB4.ext hE4); (try replace hb3_0 := Ext.cell_some hE4 hb3_0); (try replace hb3_1 := Ext.cell_some hE4 hb3_1); (try replace hb3_2 := Ext.cell_some hE4 hb3_2); (try replace hb4_0 := Ext.cell_some hE4 hb4_0); (try replace hb4_1 := Ext.cell_some hE4 hb4_1); (try replace hb4_2 := Ext.cell_some hE4 hb4_2); have hb4_0 := hB4.cell 0; have hb4_1 := hB4.cell 1; have hb4_2 := hB4.cell 2; simp at hb4_0 hb4_1 hb4_2; clear hE4))
              obtain ⟨AX, cX, hve, _, l2, _, l4⟩ := hI12.ints
              obtain ⟨rfl, rfl⟩ : A12 = AX ∧ c12 = cX := by simpa using hve
              unfold maxLen at l2
              clear hve
              (try clear hq3)
              have E0 := Lib.hid hE; have HF := Lib.hid hF; have HM := Lib.hid hM; have HI1 := Lib.hid hI1; have HI12 := Lib.hid hI12; have k30 := Lib.hid hb3_0; have k31 := Lib.hid hb3_1; have k32 := Lib.hid hb3_2
              clear hE hF hM hI1 hI12 hA h18 hb3_0 hb3_1 hb3_2
              go_loopw [20] (fun i Wr => Ext Wc Wr ∧ ∃ k : Nat, k ≤ l.length ∧ i = .int .i64 k) (fun i _ => l.length - (intOf i).toNat)
              case atStart => exact ⟨Ext.refl _, 0, by omega, rfl⟩
              case round =>
                obtain ⟨hEr, k, hk, rfl⟩ := hrel
                by_cases hlt : k < l.length
                · exact absurd hlt (by rw [hl0n.out]; omega)
                · obtain rfl : k = l.length := by omega
                  have hE := E0.out.trans hEr
                  have hF := HF.out.ext hEr; have hM := HM.out.ext hEr; have hI1 := HI1.out.ext hEr; have hI12 := HI12.out.ext hEr
                  have hb3_0 := Ext.cell_some hEr k30.out; have hb3_1 := Ext.cell_some hEr k31.out; have hb3_2 := Ext.cell_some hEr k32.out
                  clear E0 HF HM HI1 HI12 hEr
                  go_wp2_with (first | ((go_at_call 50; (refine (Without_any _ _ _ c t l _ (CodeV.of hF hM HW.out) hI1.ints hI12.ints (by have := Htl.out; omega)).mono ?_; rw [Hwl.out]; rintro e Wc ⟨v18, rfl, h18, hEx⟩; (try replace hE := Ext.trans hE hEx); (try replace hF := hF.ext hEx); (try replace hM := hM.ext hEx); (try replace hT := hT.ext hEx); (try replace hI1 := hI1.ext hEx); (try replace hI2 := hI2.ext hEx); (try replace hB3 := hB3.ext hEx); (try replace hB4 := hB4.ext hEx); (try replace hI12 := hI12.ext hEx); (try replace hA := hA.ext hEx); (try replace hD := hD.ext hEx); (try replace hb3_0 := Ext.cell_some hEx hb3_0); (try replace hb3_1 := Ext.cell_some hEx hb3_1); (try replace hb3_2 := Ext.cell_some hEx hb3_2); (try replace hb4_0 := Ext.cell_some hEx hb4_0); (try replace hb4_1 := Ext.cell_some hEx hb4_1); (try replace hb4_2 := Ext.cell_some hEx hb4_2); clear hEx; obtain ⟨A18, c18, hve18, _, _, _, _⟩ := h18.ints; subst hve18))) | ((go_at_call 51; (refine (RPassed_any _ _ c lg _ (CodeV.of hF hM HW.out) h18.ints Ho.out Hlg.out).mono ?_; rw [Hpg.out]; rintro e Wc ⟨rfl, hEx⟩; (try replace hE := Ext.trans hE hEx); (try replace hF := hF.ext hEx); (try replace hM := hM.ext hEx); (try replace hT := hT.ext hEx); (try replace hI1 := hI1.ext hEx); (try replace hI2 := hI2.ext hEx); (try replace hB3 := hB3.ext hEx); (try replace hB4 := hB4.ext hEx); (try replace hI12 := hI12.ext hEx); (try replace hA := hA.ext hEx); (try replace h18 := h18.ext hEx); (try replace hD := hD.ext hEx); (try replace hb3_0 := Ext.cell_some hEx hb3_0); (try replace hb3_1 := Ext.cell_some hEx hb3_1); (try replace hb3_2 := Ext.cell_some hEx hb3_2); (try replace hb4_0 := Ext.cell_some hEx hb4_0); (try replace hb4_1 := Ext.cell_some hEx hb4_1); (try replace hb4_2 := Ext.cell_some hEx hb4_2); clear hEx))) | ((go_at_call 24; refine (Awake_any _ (hv.ext hE)).mono ?_; rintro e Wc ⟨rfl, hEx⟩; (try replace hE := Ext.trans hE hEx); (try replace hF := hF.ext hEx); (try replace hM := hM.ext hEx); (try replace hT := hT.ext hEx); (try replace hI1 := hI1.ext hEx); (try replace hI2 := hI2.ext hEx); (try replace hB3 := hB3.ext hEx); (try replace hB4 := hB4.ext hEx); (try replace hb3_0 := Ext.cell_some hEx hb3_0); (try replace hb3_1 := Ext.cell_some hEx hb3_1); (try replace hb3_2 := Ext.cell_some hEx hb3_2); (try replace hb4_0 := Ext.cell_some hEx hb4_0); (try replace hb4_1 := Ext.cell_some hEx hb4_1); clear hEx)) | ((with_reducible refine q_box (d := some 3) ?_); intro W3 g3 hE3 hB3 hg3; simp [Act.eval, Act.put, Value.cells] at hB3; (try replace hE := hE.trans hE3); (try replace hF := hF.ext hE3); (try replace hM := hM.ext hE3); (try replace hD := hD.ext hE3); (try replace hI1 := hI1.ext hE3); (try replace hI2 := hI2.ext hE3); (try replace hI12 := hI12.ext hE3); (try replace hB3 := hB3.ext hE3); (try replace hB4 := hB4.ext hE3); (try replace hb3_0 := Ext.cell_some hE3 hb3_0); (try replace hb3_1 := Ext.cell_some hE3 hb3_1); (try replace hb3_2 := Ext.cell_some hE3 hb3_2); (try replace hb4_0 := Ext.cell_some hE3 hb4_0); (try replace hb4_1 := Ext.cell_some hE3 hb4_1); (try replace hb4_2 := Ext.cell_some hE3 hb4_2); have hb3_0 := hB3.cell 0; have hb3_1 := hB3.cell 1; have hb3_2 := hB3.cell 2; simp at hb3_0 hb3_1 hb3_2; clear hE3) | ((with_reducible refine q_box (d := some 4) ?_); intro W4 g4 hE4 hB4 hg4; simp [Act.eval, Act.put, Value.cells] at hB4; (try replace hE := hE.trans hE4); (try replace hF := hF.ext hE4); (try replace hM := hM.ext hE4); (try replace hD := hD.ext hE4); (try replace hI1 := hI1.ext hE4); (try replace hI2 := hI2.ext hE4); (try replace hI12 := hI12.ext hE4); (try replace hB3 := hB3.ext hE4); (try replace hB4 := hB4.ext hE4); (try replace hb3_0 := Ext.cell_some hE4 hb3_0); (try replace hb3_1 := Ext.cell_some hE4 hb3_1); (try replace hb3_2 := Ext.cell_some hE4 hb3_2); (try replace hb4_0 := Ext.cell_some hE4 hb4_0); (try replace hb4_1 := Ext.cell_some hE4 hb4_1); (try replace hb4_2 := Ext.cell_some hE4 hb4_2); have hb4_0 := hB4.cell 0; have hb4_1 := hB4.cell 1; have hb4_2 := hB4.cell 2; simp at hb4_0 hb4_1 hb4_2; clear hE4))
                  go_ret
                  exact ⟨rfl, hE⟩
            · skip
              go_wp2_with (first | ((go_at_call 50; (refine (Without_any _ _ _ c t any _ (CodeV.of hF hM HW.out) hI1.ints hA.ints (by have := Htl.out; omega)).mono ?_; rw [Hwo.out]; rintro e Wc ⟨v18, rfl, h18, hEx⟩; (try replace hE := Ext.trans hE hEx); (try replace hF := hF.ext hEx); (try replace hM := hM.ext hEx); (try replace hT := hT.ext hEx); (try replace hI1 := hI1.ext hEx); (try replace hI2 := hI2.ext hEx); (try replace hB3 := hB3.ext hEx); (try replace hB4 := hB4.ext hEx); (try replace hI12 := hI12.ext hEx); (try replace hA := hA.ext hEx); (try replace hD := hD.ext hEx); (try replace hb3_0 := Ext.cell_some hEx hb3_0); (try replace hb3_1 := Ext.cell_some hEx hb3_1); (try replace hb3_2 := Ext.cell_some hEx hb3_2); (try replace hb4_0 := Ext.cell_some hEx hb4_0); (try replace hb4_1 := Ext.cell_some hEx hb4_1); (try replace hb4_2 := Ext.cell_some hEx hb4_2); clear hEx; obtain ⟨A18, c18, hve18, _, _, _, _⟩ := h18.ints; subst hve18))) | ((go_at_call 51; (refine (RPassed_any _ _ c lf _ (CodeV.of hF hM HW.out) h18.ints Ho.out Hlf.out).mono ?_; rw [Hpa.out]; rintro e Wc ⟨rfl, hEx⟩; (try replace hE := Ext.trans hE hEx); (try replace hF := hF.ext hEx); (try replace hM := hM.ext hEx); (try replace hT := hT.ext hEx); (try replace hI1 := hI1.ext hEx); (try replace hI2 := hI2.ext hEx); (try replace hB3 := hB3.ext hEx); (try replace hB4 := hB4.ext hEx); (try replace hI12 := hI12.ext hEx); (try replace hA := hA.ext hEx); (try replace h18 := h18.ext hEx); (try replace hD := hD.ext hEx); (try replace hb3_0 := Ext.cell_some hEx hb3_0); (try replace hb3_1 := Ext.cell_some hEx hb3_1); (try replace hb3_2 := Ext.cell_some hEx hb3_2); (try replace hb4_0 := Ext.cell_some hEx hb4_0); (try replace hb4_1 := Ext.cell_some hEx hb4_1); (try replace hb4_2 := Ext.cell_some hEx hb4_2); clear hEx))) | ((with_reducible refine q_box (d := some 3) ?_); intro W3 g3 hE3 hB3 hg3; simp [Act.eval, Act.put, Value.cells] at hB3; (try replace hE := hE.trans hE3); (try replace hF := hF.ext hE3); (try replace hM := hM.ext hE3); (try replace hD := hD.ext hE3); (try replace hI1 := hI1.ext hE3); (try replace hI2 := hI2.ext hE3); (try replace hI12 := hI12.ext hE3); (try replace hB3 := hB3.ext hE3); (try replace hB4 := hB4.ext hE3); (try replace hb3_0 := Ext.cell_some hE3 hb3_0); (try replace hb3_1 := Ext.cell_some hE3 hb3_1); (try replace hb3_2 := Ext.cell_some hE3 hb3_2); (try replace hb4_0 := Ext.cell_some hE3 hb4_0); (try replace hb4_1 := Ext.cell_some hE3 hb4_1); (try replace hb4_2 := Ext.cell_some hE3 hb4_2); have hb3_0 := hB3.cell 0; have hb3_1 := hB3.cell 1; have hb3_2 := hB3.cell 2; simp at hb3_0 hb3_1 hb3_2; clear hE3) | ((with_reducible refine q_box (d := some 4) ?_); intro W4 g4 hE4 hB4 hg4; simp [Act.eval, Act.put, Value.cells] at hB4; (try replace hE := hE.trans hE4); (try replace hF := hF.ext hE4); (try replace hM := hM.ext hE4); (try replace hD := hD.ext hE4); (try replace hI1 := hI1.ext hE4); (try replace hI2 := hI2.ext hE4); (try replace hI12 := hI12.ext hE4); (try replace hB3 := hB3.ext hE4); (try replace hB4 := hB4.ext hE4); (try replace hb3_0 := Ext.cell_some hE4 hb3_0); (try replace hb3_1 := Ext.cell_some hE4 hb3_1); (try replace hb3_2 := Ext.cell_some hE4 hb3_2); (try replace hb4_0 := Ext.cell_some hE4 hb4_0); (try replace hb4_1 := Ext.cell_some hE4 hb4_1); (try replace hb4_2 := Ext.cell_some hE4 hb4_2); have hb4_0 := hB4.cell 0; have hb4_1 := hB4.cell 1; have hb4_2 := hB4.cell 2; simp at hb4_0 hb4_1 hb4_2; clear hE4))
              obtain ⟨AX, cX, hve, _, l2, _, l4⟩ := hI12.ints
              obtain ⟨rfl, rfl⟩ : A12 = AX ∧ c12 = cX := by simpa using hve
              unfold maxLen at l2
              clear hve
              (try clear hq3)
              have E0 := Lib.hid hE; have HF := Lib.hid hF; have HM := Lib.hid hM; have HI1 := Lib.hid hI1; have HI12 := Lib.hid hI12; have k30 := Lib.hid hb3_0; have k31 := Lib.hid hb3_1; have k32 := Lib.hid hb3_2
              clear hE hF hM hI1 hI12 hA h18 hb3_0 hb3_1 hb3_2
              go_loopw [20] (fun i Wr => Ext Wc Wr ∧ ∃ k : Nat, k ≤ l.length ∧ i = .int .i64 k) (fun i _ => l.length - (intOf i).toNat)
              case atStart => exact ⟨Ext.refl _, 0, by omega, rfl⟩
              case round =>
                obtain ⟨hEr, k, hk, rfl⟩ := hrel
                by_cases hlt : k < l.length
                · exact absurd hlt (by rw [hl0n.out]; omega)
                · obtain rfl : k = l.length := by omega
                  have hE := E0.out.trans hEr
                  have hF := HF.out.ext hEr; have hM := HM.out.ext hEr; have hI1 := HI1.out.ext hEr; have hI12 := HI12.out.ext hEr
                  have hb3_0 := Ext.cell_some hEr k30.out; have hb3_1 := Ext.cell_some hEr k31.out; have hb3_2 := Ext.cell_some hEr k32.out
                  clear E0 HF HM HI1 HI12 hEr
                  go_wp2_with (first | ((go_at_call 50; (refine (Without_any _ _ _ c t l _ (CodeV.of hF hM HW.out) hI1.ints hI12.ints (by have := Htl.out; omega)).mono ?_; rw [Hwl.out]; rintro e Wc ⟨v18, rfl, h18, hEx⟩; (try replace hE := Ext.trans hE hEx); (try replace hF := hF.ext hEx); (try replace hM := hM.ext hEx); (try replace hT := hT.ext hEx); (try replace hI1 := hI1.ext hEx); (try replace hI2 := hI2.ext hEx); (try replace hB3 := hB3.ext hEx); (try replace hB4 := hB4.ext hEx); (try replace hI12 := hI12.ext hEx); (try replace hA := hA.ext hEx); (try replace hD := hD.ext hEx); (try replace hb3_0 := Ext.cell_some hEx hb3_0); (try replace hb3_1 := Ext.cell_some hEx hb3_1); (try replace hb3_2 := Ext.cell_some hEx hb3_2); (try replace hb4_0 := Ext.cell_some hEx hb4_0); (try replace hb4_1 := Ext.cell_some hEx hb4_1); (try replace hb4_2 := Ext.cell_some hEx hb4_2); clear hEx; obtain ⟨A18, c18, hve18, _, _, _, _⟩ := h18.ints; subst hve18))) | ((go_at_call 51; (refine (RPassed_any _ _ c lg _ (CodeV.of hF hM HW.out) h18.ints Ho.out Hlg.out).mono ?_; rw [Hpg.out]; rintro e Wc ⟨rfl, hEx⟩; (try replace hE := Ext.trans hE hEx); (try replace hF := hF.ext hEx); (try replace hM := hM.ext hEx); (try replace hT := hT.ext hEx); (try replace hI1 := hI1.ext hEx); (try replace hI2 := hI2.ext hEx); (try replace hB3 := hB3.ext hEx); (try replace hB4 := hB4.ext hEx); (try replace hI12 := hI12.ext hEx); (try replace hA := hA.ext hEx); (try replace h18 := h18.ext hEx); (try replace hD := hD.ext hEx); (try replace hb3_0 := Ext.cell_some hEx hb3_0); (try replace hb3_1 := Ext.cell_some hEx hb3_1); (try replace hb3_2 := Ext.cell_some hEx hb3_2); (try replace hb4_0 := Ext.cell_some hEx hb4_0); (try replace hb4_1 := Ext.cell_some hEx hb4_1); (try replace hb4_2 := Ext.cell_some hEx hb4_2); clear hEx))) | ((go_at_call 24; refine (Awake_any _ (hv.ext hE)).mono ?_; rintro e Wc ⟨rfl, hEx⟩; (try replace hE := Ext.trans hE hEx); (try replace hF := hF.ext hEx); (try replace hM := hM.ext hEx); (try replace hT := hT.ext hEx); (try replace hI1 := hI1.ext hEx); (try replace hI2 := hI2.ext hEx); (try replace hB3 := hB3.ext hEx); (try replace hB4 := hB4.ext hEx); (try replace hb3_0 := Ext.cell_some hEx hb3_0); (try replace hb3_1 := Ext.cell_some hEx hb3_1); (try replace hb3_2 := Ext.cell_some hEx hb3_2); (try replace hb4_0 := Ext.cell_some hEx hb4_0); (try replace hb4_1 := Ext.cell_some hEx hb4_1); clear hEx)) | ((with_reducible refine q_box (d := some 3) ?_); intro W3 g3 hE3 hB3 hg3; simp [Act.eval, Act.put, Value.cells] at hB3; (try replace hE := hE.trans hE3); (try replace hF := hF.ext hE3); (try replace hM := hM.ext hE3); (try replace hD := hD.ext hE3); (try replace hI1 := hI1.ext hE3); (try replace hI2 := hI2.ext hE3); (try replace hI12 := hI12.ext hE3); (try replace hB3 := hB3.ext hE3); (try replace hB4 := hB4.ext hE3); (try replace hb3_0 := Ext.cell_some hE3 hb3_0); (try replace hb3_1 := Ext.cell_some hE3 hb3_1); (try replace hb3_2 := Ext.cell_some hE3 hb3_2); (try replace hb4_0 := Ext.cell_some hE3 hb4_0); (try replace hb4_1 := Ext.cell_some hE3 hb4_1); (try replace hb4_2 := Ext.cell_some hE3 hb4_2); have hb3_0 := hB3.cell 0; have hb3_1 := hB3.cell 1; have hb3_2 := hB3.cell 2; simp at hb3_0 hb3_1 hb3_2; clear hE3) | ((with_reducible refine q_box (d := some 4) ?_); intro W4 g4 hE4 hB4 hg4; simp [Act.eval, Act.put, Value.cells] at hB4; (try replace hE := hE.trans hE4); (try replace hF := hF.ext hE4); (try replace hM := hM.ext hE4); (try replace hD := hD.ext hE4); (try replace hI1 := hI1.ext hE4); (try replace hI2 := hI2.ext hE4); (try replace hI12 := hI12.ext hE4); (try replace hB3 := hB3.ext hE4); (try replace hB4 := hB4.ext hE4); (try replace hb3_0 := Ext.cell_some hE4 hb3_0); (try replace hb3_1 := Ext.cell_some hE4 hb3_1); (try replace hb3_2 := Ext.cell_some hE4 hb3_2); (try replace hb4_0 := Ext.cell_some hE4 hb4_0); (try replace hb4_1 := Ext.cell_some hE4 hb4_1); (try replace hb4_2 := Ext.cell_some hE4 hb4_2); have hb4_0 := hB4.cell 0; have hb4_1 := hB4.cell 1; have hb4_2 := hB4.cell 2; simp at hb4_0 hb4_1 hb4_2; clear hE4))
                  go_ret
                  exact ⟨rfl, hE⟩
      · have hpt : p = false := by
          cases hp : p
          · rfl
          · exact absurd (g3.1 hp) hl0
        have hl01 : ((l.length : Int) == 0) = false := by rw [beq_eq_false_iff_ne]; have := List.length_pos_iff.2 hl0; omega
        subst hpt
        clear g3 hl0
        go_enter Tryz.func15, Tryz.ntmps15
        go_wp2_with (first | ((go_at_call 18; refine (RCheck_any _ c _ (CodeV.of hF hM HW.out)).mono ?_; rw [H1.out]; rintro e Wc ⟨rfl, hEx⟩; (try replace hE := Ext.trans hE hEx); (try replace hF := hF.ext hEx); (try replace hM := hM.ext hEx); (try replace hT := hT.ext hEx); (try replace hI1 := hI1.ext hEx); (try replace hI2 := hI2.ext hEx); (try replace hB3 := hB3.ext hEx); (try replace hB4 := hB4.ext hEx); (try replace hI12 := hI12.ext hEx); (try replace hA := hA.ext hEx); (try replace h18 := h18.ext hEx); (try replace hD := hD.ext hEx); (try replace hb3_0 := Ext.cell_some hEx hb3_0); (try replace hb3_1 := Ext.cell_some hEx hb3_1); (try replace hb3_2 := Ext.cell_some hEx hb3_2); (try replace hb4_0 := Ext.cell_some hEx hb4_0); (try replace hb4_1 := Ext.cell_some hEx hb4_1); (try replace hb4_2 := Ext.cell_some hEx hb4_2); clear hEx)) | ((go_at_call 44; refine (Whole_any _ _ c x _ (CodeV.of hF hM HW.out) hD Ho.out).mono ?_; rintro e Wc ⟨v1, v2, rfl, ⟨hI1, hI2⟩, hEx⟩; rw [Ht.out] at hI1; (try replace hE := Ext.trans hE hEx); (try replace hF := hF.ext hEx); (try replace hM := hM.ext hEx); (try replace hT := hT.ext hEx); (try replace hB3 := hB3.ext hEx); (try replace hB4 := hB4.ext hEx); (try replace hI12 := hI12.ext hEx); (try replace hA := hA.ext hEx); (try replace h18 := h18.ext hEx); (try replace hD := hD.ext hEx); (try replace hb3_0 := Ext.cell_some hEx hb3_0); (try replace hb3_1 := Ext.cell_some hEx hb3_1); (try replace hb3_2 := Ext.cell_some hEx hb3_2); (try replace hb4_0 := Ext.cell_some hEx hb4_0); (try replace hb4_1 := Ext.cell_some hEx hb4_1); (try replace hb4_2 := Ext.cell_some hEx hb4_2); clear hEx; obtain ⟨A1, c1, hve1, _, _, _, _⟩ := hI1.ints; subst hve1; obtain ⟨A2, c2, hve2, _, _, _, _⟩ := hI2.ints; subst hve2)) | ((go_at_call 21; refine (PAppeal_any _ _ c t _ (CodeV.of hF hM HW.out) hI1.ints).mono ?_; rw [Hapl.out]; rintro e Wc ⟨v12, rfl, hI12, hEx⟩; (try replace hE := Ext.trans hE hEx); (try replace hF := hF.ext hEx); (try replace hM := hM.ext hEx); (try replace hT := hT.ext hEx); (try replace hI1 := hI1.ext hEx); (try replace hI2 := hI2.ext hEx); (try replace hB3 := hB3.ext hEx); (try replace hB4 := hB4.ext hEx); (try replace hA := hA.ext hEx); (try replace h18 := h18.ext hEx); (try replace hD := hD.ext hEx); (try replace hb3_0 := Ext.cell_some hEx hb3_0); (try replace hb3_1 := Ext.cell_some hEx hb3_1); (try replace hb3_2 := Ext.cell_some hEx hb3_2); (try replace hb4_0 := Ext.cell_some hEx hb4_0); (try replace hb4_1 := Ext.cell_some hEx hb4_1); (try replace hb4_2 := Ext.cell_some hEx hb4_2); clear hEx; obtain ⟨A12, c12, hve12, _, _, _, _⟩ := hI12.ints; subst hve12)) | ((go_at_call 19; refine (PJudge_any _ _ c t _ (CodeV.of hF hM HW.out) hI1.ints).mono ?_; rw [Hj.out]; rintro e WcJ ⟨rfl, hEx⟩; (try replace hE := Ext.trans hE hEx); (try replace hF := hF.ext hEx); (try replace hM := hM.ext hEx); (try replace hT := hT.ext hEx); (try replace hI1 := hI1.ext hEx); (try replace hI2 := hI2.ext hEx); (try replace hB3 := hB3.ext hEx); (try replace hB4 := hB4.ext hEx); (try replace hI12 := hI12.ext hEx); (try replace hA := hA.ext hEx); (try replace h18 := h18.ext hEx); (try replace hD := hD.ext hEx); (try replace hb3_0 := Ext.cell_some hEx hb3_0); (try replace hb3_1 := Ext.cell_some hEx hb3_1); (try replace hb3_2 := Ext.cell_some hEx hb3_2); (try replace hb4_0 := Ext.cell_some hEx hb4_0); (try replace hb4_1 := Ext.cell_some hEx hb4_1); (try replace hb4_2 := Ext.cell_some hEx hb4_2); clear hEx)) | ((with_reducible refine q_box (d := some 3) ?_); intro W3 g3 hE3 hB3 hg3; simp [Act.eval, Act.put, Value.cells] at hB3; (try replace hE := hE.trans hE3); (try replace hF := hF.ext hE3); (try replace hM := hM.ext hE3); (try replace hD := hD.ext hE3); (try replace hI1 := hI1.ext hE3); (try replace hI2 := hI2.ext hE3); (try replace hI12 := hI12.ext hE3); (try replace hB3 := hB3.ext hE3); (try replace hB4 := hB4.ext hE3); (try replace hb3_0 := Ext.cell_some hE3 hb3_0); (try replace hb3_1 := Ext.cell_some hE3 hb3_1); (try replace hb3_2 := Ext.cell_some hE3 hb3_2); (try replace hb4_0 := Ext.cell_some hE3 hb4_0); (try replace hb4_1 := Ext.cell_some hE3 hb4_1); (try replace hb4_2 := Ext.cell_some hE3 hb4_2); have hb3_0 := hB3.cell 0; have hb3_1 := hB3.cell 1; have hb3_2 := hB3.cell 2; simp at hb3_0 hb3_1 hb3_2; clear hE3) | ((with_reducible refine q_box (d := some 4) ?_); intro W4 g4 hE4 hB4 hg4; simp [Act.eval, Act.put, Value.cells] at hB4; (try replace hE := hE.trans hE4); (try replace hF := hF.ext hE4); (try replace hM := hM.ext hE4); (try replace hD := hD.ext hE4); (try replace hI1 := hI1.ext hE4); (try replace hI2 := hI2.ext hE4); (try replace hI12 := hI12.ext hE4); (try replace hB3 := hB3.ext hE4); (try replace hB4 := hB4.ext hE4); (try replace hb3_0 := Ext.cell_some hE4 hb3_0); (try replace hb3_1 := Ext.cell_some hE4 hb3_1); (try replace hb3_2 := Ext.cell_some hE4 hb3_2); (try replace hb4_0 := Ext.cell_some hE4 hb4_0); (try replace hb4_1 := Ext.cell_some hE4 hb4_1); (try replace hb4_2 := Ext.cell_some hE4 hb4_2); have hb4_0 := hB4.cell 0; have hb4_1 := hB4.cell 1; have hb4_2 := hB4.cell 2; simp at hb4_0 hb4_1 hb4_2; clear hE4))
        have HF := Lib.hid hF; have HM := Lib.hid hM; have HI1 := Lib.hid hI1; have HI12 := Lib.hid hI12; have kk30 := Lib.hid hb3_0; have kk31 := Lib.hid hb3_1; have kk32 := Lib.hid hb3_2
        clear hF hM hD hI2 hI1 hI12 hb3_0 hb3_1 hb3_2
        (try clear hl01)
        go_loopw [16, 17] (fun v i Wr => Ext WcJ Wr ∧ ∃ k : Nat, k ≤ t.length ∧ i = .int .i64 k ∧ OwnI WcJ.heap.size Wr v (anyTo b k)) (fun _ i _ => t.length - (intOf i).toNat)
        case atStart => exact ⟨Ext.refl _, 0, by omega, rfl, OwnI.nil _ _⟩
        case round =>
          obtain ⟨hEr, k, hk, rfl, hO⟩ := hrel
          have hk12 : k ≤ 12 := by have := Htl.out; omega
          by_cases hlt : k < t.length
          · have z2 : IntKind.i64.wrap ((k : Int) + 1) = (k : Int) + 1 := IntWalk.i64_in _ (by omega)
            have Hs := Lib.hid (anyTo_succ b k)
            have Hcl := Lib.hid (anyTo_len b k)
            have hmn : min k 16 = k := by omega
            cases hb : bitW b k with
            | false =>
              have Hs2 := Lib.hid (show anyTo b (k + 1) = anyTo b k by rw [Hs.out, hb]; rfl)
              have hq : ¬ (b / 2 ^ k).tmod 2 = 1 := by unfold bitW at hb; rw [hmn] at hb; simpa using hb
              clear hb hmn
              go_wp2
              go_roundw
              case rel => exact ⟨hEr, k + 1, by omega, by go_num, by rw [Hs2.out]; exact hO⟩
              case measure => simp [intOf]; omega
            | true =>
              have Hs2 := Lib.hid (show anyTo b (k + 1) = anyTo b k ++ [(k : Int) + 1] by rw [Hs.out, hb]; rfl)
              have hq : (b / 2 ^ k).tmod 2 = 1 := by unfold bitW at hb; rw [hmn] at hb; simpa using hb
              clear hb hmn
              go_wp2_with (first | ((with_reducible refine q_bsI (d := some 93) (n := (k : Int) + 1) ?_ ?_); (first | rfl | go_num); intro W26 g26 hE26 hB26 hg26; replace hEr := Ext.trans hEr hE26; replace hO := OwnI.ext hO hE26) | ((with_reducible refine q_appI (d := some 94) ?_ hO ?_ hB26 ?_ ?_ ?_); rfl; rfl; (have := Hcl.out; omega); exact hEr.size; intro v27 W27 hO27 hm27 hgr27; replace hEr := hm27 _ hEr))
              go_roundw
              case rel => exact ⟨hEr, k + 1, by omega, by go_num, by rw [Hs2.out]; exact hO27⟩
              case measure => simp [intOf]; omega
          · obtain rfl : k = t.length := by omega
            rw [Hay.out] at hO
            have hA := hO
            have hF := HF.out.ext hEr; have hM := HM.out.ext hEr; have hI1 := HI1.out.ext hEr; have hI12 := HI12.out.ext hEr
            have hb3_0 := Ext.cell_some hEr kk30.out; have hb3_1 := Ext.cell_some hEr kk31.out; have hb3_2 := Ext.cell_some hEr kk32.out
            replace hE := Ext.trans hE hEr
            obtain ⟨A16, c16, hve16, _, _, _, _⟩ := hA.ints
            subst hve16
            clear HF HM HI1 HI12 hEr hO
            rcases hq3 with rfl | ⟨rfl, rfl⟩ | ⟨rfl, rfl, hq3⟩
            · skip
              go_wp2_with (first | ((go_at_call 50; (refine (Without_any _ _ _ c t any _ (CodeV.of hF hM HW.out) hI1.ints hA.ints (by have := Htl.out; omega)).mono ?_; rw [Hwo.out]; rintro e Wc ⟨v18, rfl, h18, hEx⟩; (try replace hE := Ext.trans hE hEx); (try replace hF := hF.ext hEx); (try replace hM := hM.ext hEx); (try replace hT := hT.ext hEx); (try replace hI1 := hI1.ext hEx); (try replace hI2 := hI2.ext hEx); (try replace hB3 := hB3.ext hEx); (try replace hB4 := hB4.ext hEx); (try replace hI12 := hI12.ext hEx); (try replace hA := hA.ext hEx); (try replace hD := hD.ext hEx); (try replace hb3_0 := Ext.cell_some hEx hb3_0); (try replace hb3_1 := Ext.cell_some hEx hb3_1); (try replace hb3_2 := Ext.cell_some hEx hb3_2); (try replace hb4_0 := Ext.cell_some hEx hb4_0); (try replace hb4_1 := Ext.cell_some hEx hb4_1); (try replace hb4_2 := Ext.cell_some hEx hb4_2); clear hEx; obtain ⟨A18, c18, hve18, _, _, _, _⟩ := h18.ints; subst hve18))) | ((with_reducible refine q_box (d := some 3) ?_); intro W3 g3 hE3 hB3 hg3; simp [Act.eval, Act.put, Value.cells] at hB3; (try replace hE := hE.trans hE3); (try replace hF := hF.ext hE3); (try replace hM := hM.ext hE3); (try replace hD := hD.ext hE3); (try replace hI1 := hI1.ext hE3); (try replace hI2 := hI2.ext hE3); (try replace hI12 := hI12.ext hE3); (try replace hB3 := hB3.ext hE3); (try replace hB4 := hB4.ext hE3); (try replace hb3_0 := Ext.cell_some hE3 hb3_0); (try replace hb3_1 := Ext.cell_some hE3 hb3_1); (try replace hb3_2 := Ext.cell_some hE3 hb3_2); (try replace hb4_0 := Ext.cell_some hE3 hb4_0); (try replace hb4_1 := Ext.cell_some hE3 hb4_1); (try replace hb4_2 := Ext.cell_some hE3 hb4_2); have hb3_0 := hB3.cell 0; have hb3_1 := hB3.cell 1; have hb3_2 := hB3.cell 2; simp at hb3_0 hb3_1 hb3_2; clear hE3) | ((with_reducible refine q_box (d := some 4) ?_); intro W4 g4 hE4 hB4 hg4; simp [Act.eval, Act.put, Value.cells] at hB4; (try replace hE := hE.trans hE4); (try replace hF := hF.ext hE4); (try replace hM := hM.ext hE4); (try replace hD := hD.ext hE4); (try replace hI1 := hI1.ext hE4); (try replace hI2 := hI2.ext hE4); (try replace hI12 := hI12.ext hE4); (try replace hB3 := hB3.ext hE4); (try replace hB4 := hB4.ext hE4); (try replace hb3_0 := Ext.cell_some hE4 hb3_0); (try replace hb3_1 := Ext.cell_some hE4 hb3_1); (try replace hb3_2 := Ext.cell_some hE4 hb3_2); (try replace hb4_0 := Ext.cell_some hE4 hb4_0); (try replace hb4_1 := Ext.cell_some hE4 hb4_1); (try replace hb4_2 := Ext.cell_some hE4 hb4_2); have hb4_0 := hB4.cell 0; have hb4_1 := hB4.cell 1; have hb4_2 := hB4.cell 2; simp at hb4_0 hb4_1 hb4_2; clear hE4))
              obtain ⟨AX, cX, hve, _, l2, _, l4⟩ := hI12.ints
              obtain ⟨rfl, rfl⟩ : A12 = AX ∧ c12 = cX := by simpa using hve
              unfold maxLen at l2
              clear hve
              (try clear hq3)
              have E0 := Lib.hid hE; have HF := Lib.hid hF; have HM := Lib.hid hM; have HI1 := Lib.hid hI1; have HI12 := Lib.hid hI12; have k30 := Lib.hid hb3_0; have k31 := Lib.hid hb3_1; have k32 := Lib.hid hb3_2
              clear hE hF hM hI1 hI12 hA h18 hb3_0 hb3_1 hb3_2
              go_loopw [20] (fun i Wr => Ext Wc Wr ∧ ∃ k : Nat, k ≤ l.length ∧ i = .int .i64 k) (fun i _ => l.length - (intOf i).toNat)
              case atStart => exact ⟨Ext.refl _, 0, by omega, rfl⟩
              case round =>
                obtain ⟨hEr, k, hk, rfl⟩ := hrel
                by_cases hlt : k < l.length
                · obtain ⟨ad, rfl, hca⟩ := l4 (by omega)
                  have hl1 := Hln.out.1 k hlt
                  have e1 := (hca.ext hEr).i hlt
                  have y1 : ¬ (l[k] < 1) := by omega
                  have y2 : ¬ ((t.length : Int) < l[k]) := by omega
                  have z2 : IntKind.i64.wrap ((k : Int) + 1) = (k : Int) + 1 := IntWalk.i64_in _ (by have := Htl.out; omega)
                  by_cases hk0 : 0 < k
                  · obtain ⟨j, hjk⟩ : ∃ j, k = j + 1 := ⟨k - 1, by omega⟩
                    have hj : j < l.length := by omega
                    have y3 : ¬ (l[k] ≤ l[j]) := by
                      subst hjk
                      have := Hln.out.2 j hlt
                      omega
                    have e2 := (hca.ext hEr).i hj
                    have z3 : IntKind.i64.wrap ((k : Int) - 1) = (j : Int) := by rw [IntWalk.i64_in _ (by have := Htl.out; omega)]; omega
                    have y4 : (0 : Int) < (k : Int) := by omega
                    clear hjk
                    clear l4 hca
                    go_wp2_with fail
                    refine wp_region_quiet_lit (by kernel_rfl) (by kernel_rfl) ?_
                    repeat (any_goals (first | go_big_quiet_step (fail) | quiet_step (fail)))
                    refine wpQuiet_nil ?_
                    intro _ hw'
                    obtain ⟨nq, hw''⟩ := hw'
                    subst hw''
                    go_wp2
                    go_roundw
                    case rel => exact ⟨hEr.drewN _, k + 1, by omega, by go_num⟩
                    case measure => simp [intOf]; omega
                  · have y4 : ¬ (0 : Int) < (k : Int) := by omega
                    clear l4 hca
                    go_wp2_with fail
                    refine wp_region_quiet_lit (by kernel_rfl) (by kernel_rfl) ?_
                    repeat (any_goals (first | go_big_quiet_step (fail) | quiet_step (fail)))
                    refine wpQuiet_nil ?_
                    intro _ hw'
                    obtain ⟨nq, hw''⟩ := hw'
                    subst hw''
                    go_wp2
                    go_roundw
                    case rel => exact ⟨hEr.drewN _, k + 1, by omega, by go_num⟩
                    case measure => simp [intOf]; omega
                · obtain rfl : k = l.length := by omega
                  have hE := E0.out.trans hEr
                  have hF := HF.out.ext hEr; have hM := HM.out.ext hEr; have hI1 := HI1.out.ext hEr; have hI12 := HI12.out.ext hEr
                  have hb3_0 := Ext.cell_some hEr k30.out; have hb3_1 := Ext.cell_some hEr k31.out; have hb3_2 := Ext.cell_some hEr k32.out
                  clear E0 HF HM HI1 HI12 hEr
                  go_wp2_with (first | ((go_at_call 50; (refine (Without_any _ _ _ c t l _ (CodeV.of hF hM HW.out) hI1.ints hI12.ints (by have := Htl.out; omega)).mono ?_; rw [Hwl.out]; rintro e Wc ⟨v18, rfl, h18, hEx⟩; (try replace hE := Ext.trans hE hEx); (try replace hF := hF.ext hEx); (try replace hM := hM.ext hEx); (try replace hT := hT.ext hEx); (try replace hI1 := hI1.ext hEx); (try replace hI2 := hI2.ext hEx); (try replace hB3 := hB3.ext hEx); (try replace hB4 := hB4.ext hEx); (try replace hI12 := hI12.ext hEx); (try replace hA := hA.ext hEx); (try replace hD := hD.ext hEx); (try replace hb3_0 := Ext.cell_some hEx hb3_0); (try replace hb3_1 := Ext.cell_some hEx hb3_1); (try replace hb3_2 := Ext.cell_some hEx hb3_2); (try replace hb4_0 := Ext.cell_some hEx hb4_0); (try replace hb4_1 := Ext.cell_some hEx hb4_1); (try replace hb4_2 := Ext.cell_some hEx hb4_2); clear hEx; obtain ⟨A18, c18, hve18, _, _, _, _⟩ := h18.ints; subst hve18))) | ((go_at_call 51; (refine (RPassed_any _ _ c lg _ (CodeV.of hF hM HW.out) h18.ints Ho.out Hlg.out).mono ?_; rw [Hpg.out]; rintro e Wc ⟨rfl, hEx⟩; (try replace hE := Ext.trans hE hEx); (try replace hF := hF.ext hEx); (try replace hM := hM.ext hEx); (try replace hT := hT.ext hEx); (try replace hI1 := hI1.ext hEx); (try replace hI2 := hI2.ext hEx); (try replace hB3 := hB3.ext hEx); (try replace hB4 := hB4.ext hEx); (try replace hI12 := hI12.ext hEx); (try replace hA := hA.ext hEx); (try replace h18 := h18.ext hEx); (try replace hD := hD.ext hEx); (try replace hb3_0 := Ext.cell_some hEx hb3_0); (try replace hb3_1 := Ext.cell_some hEx hb3_1); (try replace hb3_2 := Ext.cell_some hEx hb3_2); (try replace hb4_0 := Ext.cell_some hEx hb4_0); (try replace hb4_1 := Ext.cell_some hEx hb4_1); (try replace hb4_2 := Ext.cell_some hEx hb4_2); clear hEx))) | ((go_at_call 24; refine (Awake_any _ (hv.ext hE)).mono ?_; rintro e Wc ⟨rfl, hEx⟩; (try replace hE := Ext.trans hE hEx); (try replace hF := hF.ext hEx); (try replace hM := hM.ext hEx); (try replace hT := hT.ext hEx); (try replace hI1 := hI1.ext hEx); (try replace hI2 := hI2.ext hEx); (try replace hB3 := hB3.ext hEx); (try replace hB4 := hB4.ext hEx); (try replace hb3_0 := Ext.cell_some hEx hb3_0); (try replace hb3_1 := Ext.cell_some hEx hb3_1); (try replace hb3_2 := Ext.cell_some hEx hb3_2); (try replace hb4_0 := Ext.cell_some hEx hb4_0); (try replace hb4_1 := Ext.cell_some hEx hb4_1); clear hEx)) | ((with_reducible refine q_box (d := some 3) ?_); intro W3 g3 hE3 hB3 hg3; simp [Act.eval, Act.put, Value.cells] at hB3; (try replace hE := hE.trans hE3); (try replace hF := hF.ext hE3); (try replace hM := hM.ext hE3); (try replace hD := hD.ext hE3); (try replace hI1 := hI1.ext hE3); (try replace hI2 := hI2.ext hE3); (try replace hI12 := hI12.ext hE3); (try replace hB3 := hB3.ext hE3); (try replace hB4 := hB4.ext hE3); (try replace hb3_0 := Ext.cell_some hE3 hb3_0); (try replace hb3_1 := Ext.cell_some hE3 hb3_1); (try replace hb3_2 := Ext.cell_some hE3 hb3_2); (try replace hb4_0 := Ext.cell_some hE3 hb4_0); (try replace hb4_1 := Ext.cell_some hE3 hb4_1); (try replace hb4_2 := Ext.cell_some hE3 hb4_2); have hb3_0 := hB3.cell 0; have hb3_1 := hB3.cell 1; have hb3_2 := hB3.cell 2; simp at hb3_0 hb3_1 hb3_2; clear hE3) | ((with_reducible refine q_box (d := some 4) ?_); intro W4 g4 hE4 hB4 hg4; simp [Act.eval, Act.put, Value.cells] at hB4; (try replace hE := hE.trans hE4); (try replace hF := hF.ext hE4); (try replace hM := hM.ext hE4); (try replace hD := hD.ext hE4); (try replace hI1 := hI1.ext hE4); (try replace hI2 := hI2.ext hE4); (try replace hI12 := hI12.ext hE4); (try replace hB3 := hB3.ext hE4); (try replace hB4 := hB4.ext hE4); (try replace hb3_0 := Ext.cell_some hE4 hb3_0); (try replace hb3_1 := Ext.cell_some hE4 hb3_1); (try replace hb3_2 := Ext.cell_some hE4 hb3_2); (try replace hb4_0 := Ext.cell_some hE4 hb4_0); (try replace hb4_1 := Ext.cell_some hE4 hb4_1); (try replace hb4_2 := Ext.cell_some hE4 hb4_2); have hb4_0 := hB4.cell 0; have hb4_1 := hB4.cell 1; have hb4_2 := hB4.cell 2; simp at hb4_0 hb4_1 hb4_2; clear hE4))
                  go_ret
                  exact ⟨rfl, hE⟩
            · skip
              go_wp2_with (first | ((go_at_call 50; (refine (Without_any _ _ _ c t any _ (CodeV.of hF hM HW.out) hI1.ints hA.ints (by have := Htl.out; omega)).mono ?_; rw [Hwo.out]; rintro e Wc ⟨v18, rfl, h18, hEx⟩; (try replace hE := Ext.trans hE hEx); (try replace hF := hF.ext hEx); (try replace hM := hM.ext hEx); (try replace hT := hT.ext hEx); (try replace hI1 := hI1.ext hEx); (try replace hI2 := hI2.ext hEx); (try replace hB3 := hB3.ext hEx); (try replace hB4 := hB4.ext hEx); (try replace hI12 := hI12.ext hEx); (try replace hA := hA.ext hEx); (try replace hD := hD.ext hEx); (try replace hb3_0 := Ext.cell_some hEx hb3_0); (try replace hb3_1 := Ext.cell_some hEx hb3_1); (try replace hb3_2 := Ext.cell_some hEx hb3_2); (try replace hb4_0 := Ext.cell_some hEx hb4_0); (try replace hb4_1 := Ext.cell_some hEx hb4_1); (try replace hb4_2 := Ext.cell_some hEx hb4_2); clear hEx; obtain ⟨A18, c18, hve18, _, _, _, _⟩ := h18.ints; subst hve18))) | ((go_at_call 51; (refine (RPassed_any _ _ c lf _ (CodeV.of hF hM HW.out) h18.ints Ho.out Hlf.out).mono ?_; rw [Hpa.out]; rintro e Wc ⟨rfl, hEx⟩; (try replace hE := Ext.trans hE hEx); (try replace hF := hF.ext hEx); (try replace hM := hM.ext hEx); (try replace hT := hT.ext hEx); (try replace hI1 := hI1.ext hEx); (try replace hI2 := hI2.ext hEx); (try replace hB3 := hB3.ext hEx); (try replace hB4 := hB4.ext hEx); (try replace hI12 := hI12.ext hEx); (try replace hA := hA.ext hEx); (try replace h18 := h18.ext hEx); (try replace hD := hD.ext hEx); (try replace hb3_0 := Ext.cell_some hEx hb3_0); (try replace hb3_1 := Ext.cell_some hEx hb3_1); (try replace hb3_2 := Ext.cell_some hEx hb3_2); (try replace hb4_0 := Ext.cell_some hEx hb4_0); (try replace hb4_1 := Ext.cell_some hEx hb4_1); (try replace hb4_2 := Ext.cell_some hEx hb4_2); clear hEx))) | ((with_reducible refine q_box (d := some 3) ?_); intro W3 g3 hE3 hB3 hg3; simp [Act.eval, Act.put, Value.cells] at hB3; (try replace hE := hE.trans hE3); (try replace hF := hF.ext hE3); (try replace hM := hM.ext hE3); (try replace hD := hD.ext hE3); (try replace hI1 := hI1.ext hE3); (try replace hI2 := hI2.ext hE3); (try replace hI12 := hI12.ext hE3); (try replace hB3 := hB3.ext hE3); (try replace hB4 := hB4.ext hE3); (try replace hb3_0 := Ext.cell_some hE3 hb3_0); (try replace hb3_1 := Ext.cell_some hE3 hb3_1); (try replace hb3_2 := Ext.cell_some hE3 hb3_2); (try replace hb4_0 := Ext.cell_some hE3 hb4_0); (try replace hb4_1 := Ext.cell_some hE3 hb4_1); (try replace hb4_2 := Ext.cell_some hE3 hb4_2); have hb3_0 := hB3.cell 0; have hb3_1 := hB3.cell 1; have hb3_2 := hB3.cell 2; simp at hb3_0 hb3_1 hb3_2; clear hE3) | ((with_reducible refine q_box (d := some 4) ?_); intro W4 g4 hE4 hB4 hg4; simp [Act.eval, Act.put, Value.cells] at hB4; (try replace hE := hE.trans hE4); (try replace hF := hF.ext hE4); (try replace hM := hM.ext hE4); (try replace hD := hD.ext hE4); (try replace hI1 := hI1.ext hE4); (try replace hI2 := hI2.ext hE4); (try replace hI12 := hI12.ext hE4); (try replace hB3 := hB3.ext hE4); (try replace hB4 := hB4.ext hE4); (try replace hb3_0 := Ext.cell_some hE4 hb3_0); (try replace hb3_1 := Ext.cell_some hE4 hb3_1); (try replace hb3_2 := Ext.cell_some hE4 hb3_2); (try replace hb4_0 := Ext.cell_some hE4 hb4_0); (try replace hb4_1 := Ext.cell_some hE4 hb4_1); (try replace hb4_2 := Ext.cell_some hE4 hb4_2); have hb4_0 := hB4.cell 0; have hb4_1 := hB4.cell 1; have hb4_2 := hB4.cell 2; simp at hb4_0 hb4_1 hb4_2; clear hE4))
              obtain ⟨AX, cX, hve, _, l2, _, l4⟩ := hI12.ints
              obtain ⟨rfl, rfl⟩ : A12 = AX ∧ c12 = cX := by simpa using hve
              unfold maxLen at l2
              clear hve
              (try clear hq3)
              have E0 := Lib.hid hE; have HF := Lib.hid hF; have HM := Lib.hid hM; have HI1 := Lib.hid hI1; have HI12 := Lib.hid hI12; have k30 := Lib.hid hb3_0; have k31 := Lib.hid hb3_1; have k32 := Lib.hid hb3_2
              clear hE hF hM hI1 hI12 hA h18 hb3_0 hb3_1 hb3_2
              go_loopw [20] (fun i Wr => Ext Wc Wr ∧ ∃ k : Nat, k ≤ l.length ∧ i = .int .i64 k) (fun i _ => l.length - (intOf i).toNat)
              case atStart => exact ⟨Ext.refl _, 0, by omega, rfl⟩
              case round =>
                obtain ⟨hEr, k, hk, rfl⟩ := hrel
                by_cases hlt : k < l.length
                · obtain ⟨ad, rfl, hca⟩ := l4 (by omega)
                  have hl1 := Hln.out.1 k hlt
                  have e1 := (hca.ext hEr).i hlt
                  have y1 : ¬ (l[k] < 1) := by omega
                  have y2 : ¬ ((t.length : Int) < l[k]) := by omega
                  have z2 : IntKind.i64.wrap ((k : Int) + 1) = (k : Int) + 1 := IntWalk.i64_in _ (by have := Htl.out; omega)
                  by_cases hk0 : 0 < k
                  · obtain ⟨j, hjk⟩ : ∃ j, k = j + 1 := ⟨k - 1, by omega⟩
                    have hj : j < l.length := by omega
                    have y3 : ¬ (l[k] ≤ l[j]) := by
                      subst hjk
                      have := Hln.out.2 j hlt
                      omega
                    have e2 := (hca.ext hEr).i hj
                    have z3 : IntKind.i64.wrap ((k : Int) - 1) = (j : Int) := by rw [IntWalk.i64_in _ (by have := Htl.out; omega)]; omega
                    have y4 : (0 : Int) < (k : Int) := by omega
                    clear hjk
                    clear l4 hca
                    go_wp2_with fail
                    refine wp_region_quiet_lit (by kernel_rfl) (by kernel_rfl) ?_
                    repeat (any_goals (first | go_big_quiet_step (fail) | quiet_step (fail)))
                    refine wpQuiet_nil ?_
                    intro _ hw'
                    obtain ⟨nq, hw''⟩ := hw'
                    subst hw''
                    go_wp2
                    go_roundw
                    case rel => exact ⟨hEr.drewN _, k + 1, by omega, by go_num⟩
                    case measure => simp [intOf]; omega
                  · have y4 : ¬ (0 : Int) < (k : Int) := by omega
                    clear l4 hca
                    go_wp2_with fail
                    refine wp_region_quiet_lit (by kernel_rfl) (by kernel_rfl) ?_
                    repeat (any_goals (first | go_big_quiet_step (fail) | quiet_step (fail)))
                    refine wpQuiet_nil ?_
                    intro _ hw'
                    obtain ⟨nq, hw''⟩ := hw'
                    subst hw''
                    go_wp2
                    go_roundw
                    case rel => exact ⟨hEr.drewN _, k + 1, by omega, by go_num⟩
                    case measure => simp [intOf]; omega
                · obtain rfl : k = l.length := by omega
                  have hE := E0.out.trans hEr
                  have hF := HF.out.ext hEr; have hM := HM.out.ext hEr; have hI1 := HI1.out.ext hEr; have hI12 := HI12.out.ext hEr
                  have hb3_0 := Ext.cell_some hEr k30.out; have hb3_1 := Ext.cell_some hEr k31.out; have hb3_2 := Ext.cell_some hEr k32.out
                  clear E0 HF HM HI1 HI12 hEr
                  go_wp2_with (first | ((go_at_call 50; (refine (Without_any _ _ _ c t l _ (CodeV.of hF hM HW.out) hI1.ints hI12.ints (by have := Htl.out; omega)).mono ?_; rw [Hwl.out]; rintro e Wc ⟨v18, rfl, h18, hEx⟩; (try replace hE := Ext.trans hE hEx); (try replace hF := hF.ext hEx); (try replace hM := hM.ext hEx); (try replace hT := hT.ext hEx); (try replace hI1 := hI1.ext hEx); (try replace hI2 := hI2.ext hEx); (try replace hB3 := hB3.ext hEx); (try replace hB4 := hB4.ext hEx); (try replace hI12 := hI12.ext hEx); (try replace hA := hA.ext hEx); (try replace hD := hD.ext hEx); (try replace hb3_0 := Ext.cell_some hEx hb3_0); (try replace hb3_1 := Ext.cell_some hEx hb3_1); (try replace hb3_2 := Ext.cell_some hEx hb3_2); (try replace hb4_0 := Ext.cell_some hEx hb4_0); (try replace hb4_1 := Ext.cell_some hEx hb4_1); (try replace hb4_2 := Ext.cell_some hEx hb4_2); clear hEx; obtain ⟨A18, c18, hve18, _, _, _, _⟩ := h18.ints; subst hve18))) | ((go_at_call 51; (refine (RPassed_any _ _ c lg _ (CodeV.of hF hM HW.out) h18.ints Ho.out Hlg.out).mono ?_; rw [Hpg.out]; rintro e Wc ⟨rfl, hEx⟩; (try replace hE := Ext.trans hE hEx); (try replace hF := hF.ext hEx); (try replace hM := hM.ext hEx); (try replace hT := hT.ext hEx); (try replace hI1 := hI1.ext hEx); (try replace hI2 := hI2.ext hEx); (try replace hB3 := hB3.ext hEx); (try replace hB4 := hB4.ext hEx); (try replace hI12 := hI12.ext hEx); (try replace hA := hA.ext hEx); (try replace h18 := h18.ext hEx); (try replace hD := hD.ext hEx); (try replace hb3_0 := Ext.cell_some hEx hb3_0); (try replace hb3_1 := Ext.cell_some hEx hb3_1); (try replace hb3_2 := Ext.cell_some hEx hb3_2); (try replace hb4_0 := Ext.cell_some hEx hb4_0); (try replace hb4_1 := Ext.cell_some hEx hb4_1); (try replace hb4_2 := Ext.cell_some hEx hb4_2); clear hEx))) | ((go_at_call 24; refine (Awake_any _ (hv.ext hE)).mono ?_; rintro e Wc ⟨rfl, hEx⟩; (try replace hE := Ext.trans hE hEx); (try replace hF := hF.ext hEx); (try replace hM := hM.ext hEx); (try replace hT := hT.ext hEx); (try replace hI1 := hI1.ext hEx); (try replace hI2 := hI2.ext hEx); (try replace hB3 := hB3.ext hEx); (try replace hB4 := hB4.ext hEx); (try replace hb3_0 := Ext.cell_some hEx hb3_0); (try replace hb3_1 := Ext.cell_some hEx hb3_1); (try replace hb3_2 := Ext.cell_some hEx hb3_2); (try replace hb4_0 := Ext.cell_some hEx hb4_0); (try replace hb4_1 := Ext.cell_some hEx hb4_1); clear hEx)) | ((with_reducible refine q_box (d := some 3) ?_); intro W3 g3 hE3 hB3 hg3; simp [Act.eval, Act.put, Value.cells] at hB3; (try replace hE := hE.trans hE3); (try replace hF := hF.ext hE3); (try replace hM := hM.ext hE3); (try replace hD := hD.ext hE3); (try replace hI1 := hI1.ext hE3); (try replace hI2 := hI2.ext hE3); (try replace hI12 := hI12.ext hE3); (try replace hB3 := hB3.ext hE3); (try replace hB4 := hB4.ext hE3); (try replace hb3_0 := Ext.cell_some hE3 hb3_0); (try replace hb3_1 := Ext.cell_some hE3 hb3_1); (try replace hb3_2 := Ext.cell_some hE3 hb3_2); (try replace hb4_0 := Ext.cell_some hE3 hb4_0); (try replace hb4_1 := Ext.cell_some hE3 hb4_1); (try replace hb4_2 := Ext.cell_some hE3 hb4_2); have hb3_0 := hB3.cell 0; have hb3_1 := hB3.cell 1; have hb3_2 := hB3.cell 2; simp at hb3_0 hb3_1 hb3_2; clear hE3) | ((with_reducible refine q_box (d := some 4) ?_); intro W4 g4 hE4 hB4 hg4; simp [Act.eval, Act.put, Value.cells] at hB4; (try replace hE := hE.trans hE4); (try replace hF := hF.ext hE4); (try replace hM := hM.ext hE4); (try replace hD := hD.ext hE4); (try replace hI1 := hI1.ext hE4); (try replace hI2 := hI2.ext hE4); (try replace hI12 := hI12.ext hE4); (try replace hB3 := hB3.ext hE4); (try replace hB4 := hB4.ext hE4); (try replace hb3_0 := Ext.cell_some hE4 hb3_0); (try replace hb3_1 := Ext.cell_some hE4 hb3_1); (try replace hb3_2 := Ext.cell_some hE4 hb3_2); (try replace hb4_0 := Ext.cell_some hE4 hb4_0); (try replace hb4_1 := Ext.cell_some hE4 hb4_1); (try replace hb4_2 := Ext.cell_some hE4 hb4_2); have hb4_0 := hB4.cell 0; have hb4_1 := hB4.cell 1; have hb4_2 := hB4.cell 2; simp at hb4_0 hb4_1 hb4_2; clear hE4))
                  go_ret
                  exact ⟨rfl, hE⟩
            · skip
              go_wp2_with (first | ((go_at_call 50; (refine (Without_any _ _ _ c t any _ (CodeV.of hF hM HW.out) hI1.ints hA.ints (by have := Htl.out; omega)).mono ?_; rw [Hwo.out]; rintro e Wc ⟨v18, rfl, h18, hEx⟩; (try replace hE := Ext.trans hE hEx); (try replace hF := hF.ext hEx); (try replace hM := hM.ext hEx); (try replace hT := hT.ext hEx); (try replace hI1 := hI1.ext hEx); (try replace hI2 := hI2.ext hEx); (try replace hB3 := hB3.ext hEx); (try replace hB4 := hB4.ext hEx); (try replace hI12 := hI12.ext hEx); (try replace hA := hA.ext hEx); (try replace hD := hD.ext hEx); (try replace hb3_0 := Ext.cell_some hEx hb3_0); (try replace hb3_1 := Ext.cell_some hEx hb3_1); (try replace hb3_2 := Ext.cell_some hEx hb3_2); (try replace hb4_0 := Ext.cell_some hEx hb4_0); (try replace hb4_1 := Ext.cell_some hEx hb4_1); (try replace hb4_2 := Ext.cell_some hEx hb4_2); clear hEx; obtain ⟨A18, c18, hve18, _, _, _, _⟩ := h18.ints; subst hve18))) | ((go_at_call 51; (refine (RPassed_any _ _ c lf _ (CodeV.of hF hM HW.out) h18.ints Ho.out Hlf.out).mono ?_; rw [Hpa.out]; rintro e Wc ⟨rfl, hEx⟩; (try replace hE := Ext.trans hE hEx); (try replace hF := hF.ext hEx); (try replace hM := hM.ext hEx); (try replace hT := hT.ext hEx); (try replace hI1 := hI1.ext hEx); (try replace hI2 := hI2.ext hEx); (try replace hB3 := hB3.ext hEx); (try replace hB4 := hB4.ext hEx); (try replace hI12 := hI12.ext hEx); (try replace hA := hA.ext hEx); (try replace h18 := h18.ext hEx); (try replace hD := hD.ext hEx); (try replace hb3_0 := Ext.cell_some hEx hb3_0); (try replace hb3_1 := Ext.cell_some hEx hb3_1); (try replace hb3_2 := Ext.cell_some hEx hb3_2); (try replace hb4_0 := Ext.cell_some hEx hb4_0); (try replace hb4_1 := Ext.cell_some hEx hb4_1); (try replace hb4_2 := Ext.cell_some hEx hb4_2); clear hEx))) | ((with_reducible refine q_box (d := some 3) ?_); intro W3 g3 hE3 hB3 hg3; simp [Act.eval, Act.put, Value.cells] at hB3; (try replace hE := hE.trans hE3); (try replace hF := hF.ext hE3); (try replace hM := hM.ext hE3); (try replace hD := hD.ext hE3); (try replace hI1 := hI1.ext hE3); (try replace hI2 := hI2.ext hE3); (try replace hI12 := hI12.ext hE3); (try replace hB3 := hB3.ext hE3); (try replace hB4 := hB4.ext hE3); (try replace hb3_0 := Ext.cell_some hE3 hb3_0); (try replace hb3_1 := Ext.cell_some hE3 hb3_1); (try replace hb3_2 := Ext.cell_some hE3 hb3_2); (try replace hb4_0 := Ext.cell_some hE3 hb4_0); (try replace hb4_1 := Ext.cell_some hE3 hb4_1); (try replace hb4_2 := Ext.cell_some hE3 hb4_2); have hb3_0 := hB3.cell 0; have hb3_1 := hB3.cell 1; have hb3_2 := hB3.cell 2; simp at hb3_0 hb3_1 hb3_2; clear hE3) | ((with_reducible refine q_box (d := some 4) ?_); intro W4 g4 hE4 hB4 hg4; simp [Act.eval, Act.put, Value.cells] at hB4; (try replace hE := hE.trans hE4); (try replace hF := hF.ext hE4); (try replace hM := hM.ext hE4); (try replace hD := hD.ext hE4); (try replace hI1 := hI1.ext hE4); (try replace hI2 := hI2.ext hE4); (try replace hI12 := hI12.ext hE4); (try replace hB3 := hB3.ext hE4); (try replace hB4 := hB4.ext hE4); (try replace hb3_0 := Ext.cell_some hE4 hb3_0); (try replace hb3_1 := Ext.cell_some hE4 hb3_1); (try replace hb3_2 := Ext.cell_some hE4 hb3_2); (try replace hb4_0 := Ext.cell_some hE4 hb4_0); (try replace hb4_1 := Ext.cell_some hE4 hb4_1); (try replace hb4_2 := Ext.cell_some hE4 hb4_2); have hb4_0 := hB4.cell 0; have hb4_1 := hB4.cell 1; have hb4_2 := hB4.cell 2; simp at hb4_0 hb4_1 hb4_2; clear hE4))
              obtain ⟨AX, cX, hve, _, l2, _, l4⟩ := hI12.ints
              obtain ⟨rfl, rfl⟩ : A12 = AX ∧ c12 = cX := by simpa using hve
              unfold maxLen at l2
              clear hve
              (try clear hq3)
              have E0 := Lib.hid hE; have HF := Lib.hid hF; have HM := Lib.hid hM; have HI1 := Lib.hid hI1; have HI12 := Lib.hid hI12; have k30 := Lib.hid hb3_0; have k31 := Lib.hid hb3_1; have k32 := Lib.hid hb3_2
              clear hE hF hM hI1 hI12 hA h18 hb3_0 hb3_1 hb3_2
              go_loopw [20] (fun i Wr => Ext Wc Wr ∧ ∃ k : Nat, k ≤ l.length ∧ i = .int .i64 k) (fun i _ => l.length - (intOf i).toNat)
              case atStart => exact ⟨Ext.refl _, 0, by omega, rfl⟩
              case round =>
                obtain ⟨hEr, k, hk, rfl⟩ := hrel
                by_cases hlt : k < l.length
                · obtain ⟨ad, rfl, hca⟩ := l4 (by omega)
                  have hl1 := Hln.out.1 k hlt
                  have e1 := (hca.ext hEr).i hlt
                  have y1 : ¬ (l[k] < 1) := by omega
                  have y2 : ¬ ((t.length : Int) < l[k]) := by omega
                  have z2 : IntKind.i64.wrap ((k : Int) + 1) = (k : Int) + 1 := IntWalk.i64_in _ (by have := Htl.out; omega)
                  by_cases hk0 : 0 < k
                  · obtain ⟨j, hjk⟩ : ∃ j, k = j + 1 := ⟨k - 1, by omega⟩
                    have hj : j < l.length := by omega
                    have y3 : ¬ (l[k] ≤ l[j]) := by
                      subst hjk
                      have := Hln.out.2 j hlt
                      omega
                    have e2 := (hca.ext hEr).i hj
                    have z3 : IntKind.i64.wrap ((k : Int) - 1) = (j : Int) := by rw [IntWalk.i64_in _ (by have := Htl.out; omega)]; omega
                    have y4 : (0 : Int) < (k : Int) := by omega
                    clear hjk
                    clear l4 hca
                    go_wp2_with fail
                    refine wp_region_quiet_lit (by kernel_rfl) (by kernel_rfl) ?_
                    repeat (any_goals (first | go_big_quiet_step (fail) | quiet_step (fail)))
                    refine wpQuiet_nil ?_
                    intro _ hw'
                    obtain ⟨nq, hw''⟩ := hw'
                    subst hw''
                    go_wp2
                    go_roundw
                    case rel => exact ⟨hEr.drewN _, k + 1, by omega, by go_num⟩
                    case measure => simp [intOf]; omega
                  · have y4 : ¬ (0 : Int) < (k : Int) := by omega
                    clear l4 hca
                    go_wp2_with fail
                    refine wp_region_quiet_lit (by kernel_rfl) (by kernel_rfl) ?_
                    repeat (any_goals (first | go_big_quiet_step (fail) | quiet_step (fail)))
                    refine wpQuiet_nil ?_
                    intro _ hw'
                    obtain ⟨nq, hw''⟩ := hw'
                    subst hw''
                    go_wp2
                    go_roundw
                    case rel => exact ⟨hEr.drewN _, k + 1, by omega, by go_num⟩
                    case measure => simp [intOf]; omega
                · obtain rfl : k = l.length := by omega
                  have hE := E0.out.trans hEr
                  have hF := HF.out.ext hEr; have hM := HM.out.ext hEr; have hI1 := HI1.out.ext hEr; have hI12 := HI12.out.ext hEr
                  have hb3_0 := Ext.cell_some hEr k30.out; have hb3_1 := Ext.cell_some hEr k31.out; have hb3_2 := Ext.cell_some hEr k32.out
                  clear E0 HF HM HI1 HI12 hEr
                  go_wp2_with (first | ((go_at_call 50; (refine (Without_any _ _ _ c t l _ (CodeV.of hF hM HW.out) hI1.ints hI12.ints (by have := Htl.out; omega)).mono ?_; rw [Hwl.out]; rintro e Wc ⟨v18, rfl, h18, hEx⟩; (try replace hE := Ext.trans hE hEx); (try replace hF := hF.ext hEx); (try replace hM := hM.ext hEx); (try replace hT := hT.ext hEx); (try replace hI1 := hI1.ext hEx); (try replace hI2 := hI2.ext hEx); (try replace hB3 := hB3.ext hEx); (try replace hB4 := hB4.ext hEx); (try replace hI12 := hI12.ext hEx); (try replace hA := hA.ext hEx); (try replace hD := hD.ext hEx); (try replace hb3_0 := Ext.cell_some hEx hb3_0); (try replace hb3_1 := Ext.cell_some hEx hb3_1); (try replace hb3_2 := Ext.cell_some hEx hb3_2); (try replace hb4_0 := Ext.cell_some hEx hb4_0); (try replace hb4_1 := Ext.cell_some hEx hb4_1); (try replace hb4_2 := Ext.cell_some hEx hb4_2); clear hEx; obtain ⟨A18, c18, hve18, _, _, _, _⟩ := h18.ints; subst hve18))) | ((go_at_call 51; (refine (RPassed_any _ _ c lg _ (CodeV.of hF hM HW.out) h18.ints Ho.out Hlg.out).mono ?_; rw [Hpg.out]; rintro e Wc ⟨rfl, hEx⟩; (try replace hE := Ext.trans hE hEx); (try replace hF := hF.ext hEx); (try replace hM := hM.ext hEx); (try replace hT := hT.ext hEx); (try replace hI1 := hI1.ext hEx); (try replace hI2 := hI2.ext hEx); (try replace hB3 := hB3.ext hEx); (try replace hB4 := hB4.ext hEx); (try replace hI12 := hI12.ext hEx); (try replace hA := hA.ext hEx); (try replace h18 := h18.ext hEx); (try replace hD := hD.ext hEx); (try replace hb3_0 := Ext.cell_some hEx hb3_0); (try replace hb3_1 := Ext.cell_some hEx hb3_1); (try replace hb3_2 := Ext.cell_some hEx hb3_2); (try replace hb4_0 := Ext.cell_some hEx hb4_0); (try replace hb4_1 := Ext.cell_some hEx hb4_1); (try replace hb4_2 := Ext.cell_some hEx hb4_2); clear hEx))) | ((go_at_call 24; refine (Awake_any _ (hv.ext hE)).mono ?_; rintro e Wc ⟨rfl, hEx⟩; (try replace hE := Ext.trans hE hEx); (try replace hF := hF.ext hEx); (try replace hM := hM.ext hEx); (try replace hT := hT.ext hEx); (try replace hI1 := hI1.ext hEx); (try replace hI2 := hI2.ext hEx); (try replace hB3 := hB3.ext hEx); (try replace hB4 := hB4.ext hEx); (try replace hb3_0 := Ext.cell_some hEx hb3_0); (try replace hb3_1 := Ext.cell_some hEx hb3_1); (try replace hb3_2 := Ext.cell_some hEx hb3_2); (try replace hb4_0 := Ext.cell_some hEx hb4_0); (try replace hb4_1 := Ext.cell_some hEx hb4_1); clear hEx)) | ((with_reducible refine q_box (d := some 3) ?_); intro W3 g3 hE3 hB3 hg3; simp [Act.eval, Act.put, Value.cells] at hB3; (try replace hE := hE.trans hE3); (try replace hF := hF.ext hE3); (try replace hM := hM.ext hE3); (try replace hD := hD.ext hE3); (try replace hI1 := hI1.ext hE3); (try replace hI2 := hI2.ext hE3); (try replace hI12 := hI12.ext hE3); (try replace hB3 := hB3.ext hE3); (try replace hB4 := hB4.ext hE3); (try replace hb3_0 := Ext.cell_some hE3 hb3_0); (try replace hb3_1 := Ext.cell_some hE3 hb3_1); (try replace hb3_2 := Ext.cell_some hE3 hb3_2); (try replace hb4_0 := Ext.cell_some hE3 hb4_0); (try replace hb4_1 := Ext.cell_some hE3 hb4_1); (try replace hb4_2 := Ext.cell_some hE3 hb4_2); have hb3_0 := hB3.cell 0; have hb3_1 := hB3.cell 1; have hb3_2 := hB3.cell 2; simp at hb3_0 hb3_1 hb3_2; clear hE3) | ((with_reducible refine q_box (d := some 4) ?_); intro W4 g4 hE4 hB4 hg4; simp [Act.eval, Act.put, Value.cells] at hB4; (try replace hE := hE.trans hE4); (try replace hF := hF.ext hE4); (try replace hM := hM.ext hE4); (try replace hD := hD.ext hE4); (try replace hI1 := hI1.ext hE4); (try replace hI2 := hI2.ext hE4); (try replace hI12 := hI12.ext hE4); (try replace hB3 := hB3.ext hE4); (try replace hB4 := hB4.ext hE4); (try replace hb3_0 := Ext.cell_some hE4 hb3_0); (try replace hb3_1 := Ext.cell_some hE4 hb3_1); (try replace hb3_2 := Ext.cell_some hE4 hb3_2); (try replace hb4_0 := Ext.cell_some hE4 hb4_0); (try replace hb4_1 := Ext.cell_some hE4 hb4_1); (try replace hb4_2 := Ext.cell_some hE4 hb4_2); have hb4_0 := hB4.cell 0; have hb4_1 := hB4.cell 1; have hb4_2 := hB4.cell 2; simp at hb4_0 hb4_1 hb4_2; clear hE4))
                  go_ret
                  exact ⟨rfl, hE⟩
    · have Hapl := Lib.hid g1
      have hq3 : fa = false ∨ (fa = true ∧ pa = false) := by
        cases hfa : fa
        · exact .inl rfl
        · exact .inr ⟨rfl, g2 hfa⟩
      clear g1 g2
      go_enter Tryz.func15, Tryz.ntmps15
      go_wp2_with (first | ((go_at_call 18; refine (RCheck_any _ c _ (CodeV.of hF hM HW.out)).mono ?_; rw [H1.out]; rintro e Wc ⟨rfl, hEx⟩; (try replace hE := Ext.trans hE hEx); (try replace hF := hF.ext hEx); (try replace hM := hM.ext hEx); (try replace hT := hT.ext hEx); (try replace hI1 := hI1.ext hEx); (try replace hI2 := hI2.ext hEx); (try replace hB3 := hB3.ext hEx); (try replace hB4 := hB4.ext hEx); (try replace hI12 := hI12.ext hEx); (try replace hA := hA.ext hEx); (try replace h18 := h18.ext hEx); (try replace hD := hD.ext hEx); (try replace hb3_0 := Ext.cell_some hEx hb3_0); (try replace hb3_1 := Ext.cell_some hEx hb3_1); (try replace hb3_2 := Ext.cell_some hEx hb3_2); (try replace hb4_0 := Ext.cell_some hEx hb4_0); (try replace hb4_1 := Ext.cell_some hEx hb4_1); (try replace hb4_2 := Ext.cell_some hEx hb4_2); clear hEx)) | ((go_at_call 44; refine (Whole_any _ _ c x _ (CodeV.of hF hM HW.out) hD Ho.out).mono ?_; rintro e Wc ⟨v1, v2, rfl, ⟨hI1, hI2⟩, hEx⟩; rw [Ht.out] at hI1; (try replace hE := Ext.trans hE hEx); (try replace hF := hF.ext hEx); (try replace hM := hM.ext hEx); (try replace hT := hT.ext hEx); (try replace hB3 := hB3.ext hEx); (try replace hB4 := hB4.ext hEx); (try replace hI12 := hI12.ext hEx); (try replace hA := hA.ext hEx); (try replace h18 := h18.ext hEx); (try replace hD := hD.ext hEx); (try replace hb3_0 := Ext.cell_some hEx hb3_0); (try replace hb3_1 := Ext.cell_some hEx hb3_1); (try replace hb3_2 := Ext.cell_some hEx hb3_2); (try replace hb4_0 := Ext.cell_some hEx hb4_0); (try replace hb4_1 := Ext.cell_some hEx hb4_1); (try replace hb4_2 := Ext.cell_some hEx hb4_2); clear hEx; obtain ⟨A1, c1, hve1, _, _, _, _⟩ := hI1.ints; subst hve1; obtain ⟨A2, c2, hve2, _, _, _, _⟩ := hI2.ints; subst hve2)) | ((go_at_call 21; refine (PAppeal_any _ _ c t _ (CodeV.of hF hM HW.out) hI1.ints).mono ?_; rw [Hapl.out]; rintro e Wc ⟨v12, rfl, hI12, hEx⟩; (try replace hE := Ext.trans hE hEx); (try replace hF := hF.ext hEx); (try replace hM := hM.ext hEx); (try replace hT := hT.ext hEx); (try replace hI1 := hI1.ext hEx); (try replace hI2 := hI2.ext hEx); (try replace hB3 := hB3.ext hEx); (try replace hB4 := hB4.ext hEx); (try replace hA := hA.ext hEx); (try replace h18 := h18.ext hEx); (try replace hD := hD.ext hEx); (try replace hb3_0 := Ext.cell_some hEx hb3_0); (try replace hb3_1 := Ext.cell_some hEx hb3_1); (try replace hb3_2 := Ext.cell_some hEx hb3_2); (try replace hb4_0 := Ext.cell_some hEx hb4_0); (try replace hb4_1 := Ext.cell_some hEx hb4_1); (try replace hb4_2 := Ext.cell_some hEx hb4_2); clear hEx; obtain ⟨A12, c12, hve12, _, _, _, _⟩ := hI12.ints; subst hve12)) | ((go_at_call 19; refine (PJudge_any _ _ c t _ (CodeV.of hF hM HW.out) hI1.ints).mono ?_; rw [Hj.out]; rintro e WcJ ⟨rfl, hEx⟩; (try replace hE := Ext.trans hE hEx); (try replace hF := hF.ext hEx); (try replace hM := hM.ext hEx); (try replace hT := hT.ext hEx); (try replace hI1 := hI1.ext hEx); (try replace hI2 := hI2.ext hEx); (try replace hB3 := hB3.ext hEx); (try replace hB4 := hB4.ext hEx); (try replace hI12 := hI12.ext hEx); (try replace hA := hA.ext hEx); (try replace h18 := h18.ext hEx); (try replace hD := hD.ext hEx); (try replace hb3_0 := Ext.cell_some hEx hb3_0); (try replace hb3_1 := Ext.cell_some hEx hb3_1); (try replace hb3_2 := Ext.cell_some hEx hb3_2); (try replace hb4_0 := Ext.cell_some hEx hb4_0); (try replace hb4_1 := Ext.cell_some hEx hb4_1); (try replace hb4_2 := Ext.cell_some hEx hb4_2); clear hEx)) | ((with_reducible refine q_box (d := some 3) ?_); intro W3 g3 hE3 hB3 hg3; simp [Act.eval, Act.put, Value.cells] at hB3; (try replace hE := hE.trans hE3); (try replace hF := hF.ext hE3); (try replace hM := hM.ext hE3); (try replace hD := hD.ext hE3); (try replace hI1 := hI1.ext hE3); (try replace hI2 := hI2.ext hE3); (try replace hI12 := hI12.ext hE3); (try replace hB3 := hB3.ext hE3); (try replace hB4 := hB4.ext hE3); (try replace hb3_0 := Ext.cell_some hE3 hb3_0); (try replace hb3_1 := Ext.cell_some hE3 hb3_1); (try replace hb3_2 := Ext.cell_some hE3 hb3_2); (try replace hb4_0 := Ext.cell_some hE3 hb4_0); (try replace hb4_1 := Ext.cell_some hE3 hb4_1); (try replace hb4_2 := Ext.cell_some hE3 hb4_2); have hb3_0 := hB3.cell 0; have hb3_1 := hB3.cell 1; have hb3_2 := hB3.cell 2; simp at hb3_0 hb3_1 hb3_2; clear hE3) | ((with_reducible refine q_box (d := some 4) ?_); intro W4 g4 hE4 hB4 hg4; simp [Act.eval, Act.put, Value.cells] at hB4; (try replace hE := hE.trans hE4); (try replace hF := hF.ext hE4); (try replace hM := hM.ext hE4); (try replace hD := hD.ext hE4); (try replace hI1 := hI1.ext hE4); (try replace hI2 := hI2.ext hE4); (try replace hI12 := hI12.ext hE4); (try replace hB3 := hB3.ext hE4); (try replace hB4 := hB4.ext hE4); (try replace hb3_0 := Ext.cell_some hE4 hb3_0); (try replace hb3_1 := Ext.cell_some hE4 hb3_1); (try replace hb3_2 := Ext.cell_some hE4 hb3_2); (try replace hb4_0 := Ext.cell_some hE4 hb4_0); (try replace hb4_1 := Ext.cell_some hE4 hb4_1); (try replace hb4_2 := Ext.cell_some hE4 hb4_2); have hb4_0 := hB4.cell 0; have hb4_1 := hB4.cell 1; have hb4_2 := hB4.cell 2; simp at hb4_0 hb4_1 hb4_2; clear hE4))
      have HF := Lib.hid hF; have HM := Lib.hid hM; have HI1 := Lib.hid hI1; have HI12 := Lib.hid hI12; have kk30 := Lib.hid hb3_0; have kk31 := Lib.hid hb3_1; have kk32 := Lib.hid hb3_2
      clear hF hM hD hI2 hI1 hI12 hb3_0 hb3_1 hb3_2
      (try clear hl01)
      go_loopw [16, 17] (fun v i Wr => Ext WcJ Wr ∧ ∃ k : Nat, k ≤ t.length ∧ i = .int .i64 k ∧ OwnI WcJ.heap.size Wr v (anyTo b k)) (fun _ i _ => t.length - (intOf i).toNat)
      case atStart => exact ⟨Ext.refl _, 0, by omega, rfl, OwnI.nil _ _⟩
      case round =>
        obtain ⟨hEr, k, hk, rfl, hO⟩ := hrel
        have hk12 : k ≤ 12 := by have := Htl.out; omega
        by_cases hlt : k < t.length
        · have z2 : IntKind.i64.wrap ((k : Int) + 1) = (k : Int) + 1 := IntWalk.i64_in _ (by omega)
          have Hs := Lib.hid (anyTo_succ b k)
          have Hcl := Lib.hid (anyTo_len b k)
          have hmn : min k 16 = k := by omega
          cases hb : bitW b k with
          | false =>
            have Hs2 := Lib.hid (show anyTo b (k + 1) = anyTo b k by rw [Hs.out, hb]; rfl)
            have hq : ¬ (b / 2 ^ k).tmod 2 = 1 := by unfold bitW at hb; rw [hmn] at hb; simpa using hb
            clear hb hmn
            go_wp2
            go_roundw
            case rel => exact ⟨hEr, k + 1, by omega, by go_num, by rw [Hs2.out]; exact hO⟩
            case measure => simp [intOf]; omega
          | true =>
            have Hs2 := Lib.hid (show anyTo b (k + 1) = anyTo b k ++ [(k : Int) + 1] by rw [Hs.out, hb]; rfl)
            have hq : (b / 2 ^ k).tmod 2 = 1 := by unfold bitW at hb; rw [hmn] at hb; simpa using hb
            clear hb hmn
            go_wp2_with (first | ((with_reducible refine q_bsI (d := some 93) (n := (k : Int) + 1) ?_ ?_); (first | rfl | go_num); intro W26 g26 hE26 hB26 hg26; replace hEr := Ext.trans hEr hE26; replace hO := OwnI.ext hO hE26) | ((with_reducible refine q_appI (d := some 94) ?_ hO ?_ hB26 ?_ ?_ ?_); rfl; rfl; (have := Hcl.out; omega); exact hEr.size; intro v27 W27 hO27 hm27 hgr27; replace hEr := hm27 _ hEr))
            go_roundw
            case rel => exact ⟨hEr, k + 1, by omega, by go_num, by rw [Hs2.out]; exact hO27⟩
            case measure => simp [intOf]; omega
        · obtain rfl : k = t.length := by omega
          rw [Hay.out] at hO
          have hA := hO
          have hF := HF.out.ext hEr; have hM := HM.out.ext hEr; have hI1 := HI1.out.ext hEr; have hI12 := HI12.out.ext hEr
          have hb3_0 := Ext.cell_some hEr kk30.out; have hb3_1 := Ext.cell_some hEr kk31.out; have hb3_2 := Ext.cell_some hEr kk32.out
          replace hE := Ext.trans hE hEr
          obtain ⟨A16, c16, hve16, _, _, _, _⟩ := hA.ints
          subst hve16
          clear HF HM HI1 HI12 hEr hO
          rcases hq3 with rfl | ⟨rfl, rfl⟩
          · skip
            go_wp2_with (first | ((go_at_call 50; (refine (Without_any _ _ _ c t any _ (CodeV.of hF hM HW.out) hI1.ints hA.ints (by have := Htl.out; omega)).mono ?_; rw [Hwo.out]; rintro e Wc ⟨v18, rfl, h18, hEx⟩; (try replace hE := Ext.trans hE hEx); (try replace hF := hF.ext hEx); (try replace hM := hM.ext hEx); (try replace hT := hT.ext hEx); (try replace hI1 := hI1.ext hEx); (try replace hI2 := hI2.ext hEx); (try replace hB3 := hB3.ext hEx); (try replace hB4 := hB4.ext hEx); (try replace hI12 := hI12.ext hEx); (try replace hA := hA.ext hEx); (try replace hD := hD.ext hEx); (try replace hb3_0 := Ext.cell_some hEx hb3_0); (try replace hb3_1 := Ext.cell_some hEx hb3_1); (try replace hb3_2 := Ext.cell_some hEx hb3_2); (try replace hb4_0 := Ext.cell_some hEx hb4_0); (try replace hb4_1 := Ext.cell_some hEx hb4_1); (try replace hb4_2 := Ext.cell_some hEx hb4_2); clear hEx; obtain ⟨A18, c18, hve18, _, _, _, _⟩ := h18.ints; subst hve18))) | ((go_at_call 24; refine (Awake_any _ (hv.ext hE)).mono ?_; rintro e Wc ⟨rfl, hEx⟩; (try replace hE := Ext.trans hE hEx); (try replace hF := hF.ext hEx); (try replace hM := hM.ext hEx); (try replace hT := hT.ext hEx); (try replace hI1 := hI1.ext hEx); (try replace hI2 := hI2.ext hEx); (try replace hB3 := hB3.ext hEx); (try replace hB4 := hB4.ext hEx); (try replace hb3_0 := Ext.cell_some hEx hb3_0); (try replace hb3_1 := Ext.cell_some hEx hb3_1); (try replace hb3_2 := Ext.cell_some hEx hb3_2); (try replace hb4_0 := Ext.cell_some hEx hb4_0); (try replace hb4_1 := Ext.cell_some hEx hb4_1); clear hEx)) | ((with_reducible refine q_box (d := some 3) ?_); intro W3 g3 hE3 hB3 hg3; simp [Act.eval, Act.put, Value.cells] at hB3; (try replace hE := hE.trans hE3); (try replace hF := hF.ext hE3); (try replace hM := hM.ext hE3); (try replace hD := hD.ext hE3); (try replace hI1 := hI1.ext hE3); (try replace hI2 := hI2.ext hE3); (try replace hI12 := hI12.ext hE3); (try replace hB3 := hB3.ext hE3); (try replace hB4 := hB4.ext hE3); (try replace hb3_0 := Ext.cell_some hE3 hb3_0); (try replace hb3_1 := Ext.cell_some hE3 hb3_1); (try replace hb3_2 := Ext.cell_some hE3 hb3_2); (try replace hb4_0 := Ext.cell_some hE3 hb4_0); (try replace hb4_1 := Ext.cell_some hE3 hb4_1); (try replace hb4_2 := Ext.cell_some hE3 hb4_2); have hb3_0 := hB3.cell 0; have hb3_1 := hB3.cell 1; have hb3_2 := hB3.cell 2; simp at hb3_0 hb3_1 hb3_2; clear hE3) | ((with_reducible refine q_box (d := some 4) ?_); intro W4 g4 hE4 hB4 hg4; simp [Act.eval, Act.put, Value.cells] at hB4; (try replace hE := hE.trans hE4); (try replace hF := hF.ext hE4); (try replace hM := hM.ext hE4); (try replace hD := hD.ext hE4); (try replace hI1 := hI1.ext hE4); (try replace hI2 := hI2.ext hE4); (try replace hI12 := hI12.ext hE4); (try replace hB3 := hB3.ext hE4); (try replace hB4 := hB4.ext hE4); (try replace hb3_0 := Ext.cell_some hE4 hb3_0); (try replace hb3_1 := Ext.cell_some hE4 hb3_1); (try replace hb3_2 := Ext.cell_some hE4 hb3_2); (try replace hb4_0 := Ext.cell_some hE4 hb4_0); (try replace hb4_1 := Ext.cell_some hE4 hb4_1); (try replace hb4_2 := Ext.cell_some hE4 hb4_2); have hb4_0 := hB4.cell 0; have hb4_1 := hB4.cell 1; have hb4_2 := hB4.cell 2; simp at hb4_0 hb4_1 hb4_2; clear hE4))
            go_ret
            exact ⟨rfl, hE⟩
          · skip
            go_wp2_with (first | ((go_at_call 50; (refine (Without_any _ _ _ c t any _ (CodeV.of hF hM HW.out) hI1.ints hA.ints (by have := Htl.out; omega)).mono ?_; rw [Hwo.out]; rintro e Wc ⟨v18, rfl, h18, hEx⟩; (try replace hE := Ext.trans hE hEx); (try replace hF := hF.ext hEx); (try replace hM := hM.ext hEx); (try replace hT := hT.ext hEx); (try replace hI1 := hI1.ext hEx); (try replace hI2 := hI2.ext hEx); (try replace hB3 := hB3.ext hEx); (try replace hB4 := hB4.ext hEx); (try replace hI12 := hI12.ext hEx); (try replace hA := hA.ext hEx); (try replace hD := hD.ext hEx); (try replace hb3_0 := Ext.cell_some hEx hb3_0); (try replace hb3_1 := Ext.cell_some hEx hb3_1); (try replace hb3_2 := Ext.cell_some hEx hb3_2); (try replace hb4_0 := Ext.cell_some hEx hb4_0); (try replace hb4_1 := Ext.cell_some hEx hb4_1); (try replace hb4_2 := Ext.cell_some hEx hb4_2); clear hEx; obtain ⟨A18, c18, hve18, _, _, _, _⟩ := h18.ints; subst hve18))) | ((go_at_call 51; (refine (RPassed_any _ _ c lf _ (CodeV.of hF hM HW.out) h18.ints Ho.out Hlf.out).mono ?_; rw [Hpa.out]; rintro e Wc ⟨rfl, hEx⟩; (try replace hE := Ext.trans hE hEx); (try replace hF := hF.ext hEx); (try replace hM := hM.ext hEx); (try replace hT := hT.ext hEx); (try replace hI1 := hI1.ext hEx); (try replace hI2 := hI2.ext hEx); (try replace hB3 := hB3.ext hEx); (try replace hB4 := hB4.ext hEx); (try replace hI12 := hI12.ext hEx); (try replace hA := hA.ext hEx); (try replace h18 := h18.ext hEx); (try replace hD := hD.ext hEx); (try replace hb3_0 := Ext.cell_some hEx hb3_0); (try replace hb3_1 := Ext.cell_some hEx hb3_1); (try replace hb3_2 := Ext.cell_some hEx hb3_2); (try replace hb4_0 := Ext.cell_some hEx hb4_0); (try replace hb4_1 := Ext.cell_some hEx hb4_1); (try replace hb4_2 := Ext.cell_some hEx hb4_2); clear hEx))) | ((go_at_call 24; refine (Awake_any _ (hv.ext hE)).mono ?_; rintro e Wc ⟨rfl, hEx⟩; (try replace hE := Ext.trans hE hEx); (try replace hF := hF.ext hEx); (try replace hM := hM.ext hEx); (try replace hT := hT.ext hEx); (try replace hI1 := hI1.ext hEx); (try replace hI2 := hI2.ext hEx); (try replace hB3 := hB3.ext hEx); (try replace hB4 := hB4.ext hEx); (try replace hb3_0 := Ext.cell_some hEx hb3_0); (try replace hb3_1 := Ext.cell_some hEx hb3_1); (try replace hb3_2 := Ext.cell_some hEx hb3_2); (try replace hb4_0 := Ext.cell_some hEx hb4_0); (try replace hb4_1 := Ext.cell_some hEx hb4_1); clear hEx)) | ((with_reducible refine q_box (d := some 3) ?_); intro W3 g3 hE3 hB3 hg3; simp [Act.eval, Act.put, Value.cells] at hB3; (try replace hE := hE.trans hE3); (try replace hF := hF.ext hE3); (try replace hM := hM.ext hE3); (try replace hD := hD.ext hE3); (try replace hI1 := hI1.ext hE3); (try replace hI2 := hI2.ext hE3); (try replace hI12 := hI12.ext hE3); (try replace hB3 := hB3.ext hE3); (try replace hB4 := hB4.ext hE3); (try replace hb3_0 := Ext.cell_some hE3 hb3_0); (try replace hb3_1 := Ext.cell_some hE3 hb3_1); (try replace hb3_2 := Ext.cell_some hE3 hb3_2); (try replace hb4_0 := Ext.cell_some hE3 hb4_0); (try replace hb4_1 := Ext.cell_some hE3 hb4_1); (try replace hb4_2 := Ext.cell_some hE3 hb4_2); have hb3_0 := hB3.cell 0; have hb3_1 := hB3.cell 1; have hb3_2 := hB3.cell 2; simp at hb3_0 hb3_1 hb3_2; clear hE3) | ((with_reducible refine q_box (d := some 4) ?_); intro W4 g4 hE4 hB4 hg4; simp [Act.eval, Act.put, Value.cells] at hB4; (try replace hE := hE.trans hE4); (try replace hF := hF.ext hE4); (try replace hM := hM.ext hE4); (try replace hD := hD.ext hE4); (try replace hI1 := hI1.ext hE4); (try replace hI2 := hI2.ext hE4); (try replace hI12 := hI12.ext hE4); (try replace hB3 := hB3.ext hE4); (try replace hB4 := hB4.ext hE4); (try replace hb3_0 := Ext.cell_some hE4 hb3_0); (try replace hb3_1 := Ext.cell_some hE4 hb3_1); (try replace hb3_2 := Ext.cell_some hE4 hb3_2); (try replace hb4_0 := Ext.cell_some hE4 hb4_0); (try replace hb4_1 := Ext.cell_some hE4 hb4_1); (try replace hb4_2 := Ext.cell_some hE4 hb4_2); have hb4_0 := hB4.cell 0; have hb4_1 := hB4.cell 1; have hb4_2 := hB4.cell 2; simp at hb4_0 hb4_1 hb4_2; clear hE4))
            go_ret
            exact ⟨rfl, hE⟩
  · have q1 : (er != 0) = true := by simp [he]
    clear h1 he
    go_enter Tryz.func15, Tryz.ntmps15
    go_wp2_with (first | ((go_at_call 18; refine (RCheck_any _ c _ (CodeV.of hF hM HW.out)).mono ?_; rw [H1.out]; rintro e Wc ⟨rfl, hEx⟩; (try replace hE := Ext.trans hE hEx); (try replace hF := hF.ext hEx); (try replace hM := hM.ext hEx); (try replace hT := hT.ext hEx); (try replace hI1 := hI1.ext hEx); (try replace hI2 := hI2.ext hEx); (try replace hB3 := hB3.ext hEx); (try replace hB4 := hB4.ext hEx); (try replace hI12 := hI12.ext hEx); (try replace hA := hA.ext hEx); (try replace h18 := h18.ext hEx); (try replace hD := hD.ext hEx); (try replace hb3_0 := Ext.cell_some hEx hb3_0); (try replace hb3_1 := Ext.cell_some hEx hb3_1); (try replace hb3_2 := Ext.cell_some hEx hb3_2); (try replace hb4_0 := Ext.cell_some hEx hb4_0); (try replace hb4_1 := Ext.cell_some hEx hb4_1); (try replace hb4_2 := Ext.cell_some hEx hb4_2); clear hEx)) | ((go_at_call 24; refine (Awake_any _ (hv.ext hE)).mono ?_; rintro e Wc ⟨rfl, hEx⟩; (try replace hE := Ext.trans hE hEx); (try replace hF := hF.ext hEx); (try replace hM := hM.ext hEx); (try replace hT := hT.ext hEx); (try replace hI1 := hI1.ext hEx); (try replace hI2 := hI2.ext hEx); (try replace hB3 := hB3.ext hEx); (try replace hB4 := hB4.ext hEx); (try replace hb3_0 := Ext.cell_some hEx hb3_0); (try replace hb3_1 := Ext.cell_some hEx hb3_1); (try replace hb3_2 := Ext.cell_some hEx hb3_2); (try replace hb4_0 := Ext.cell_some hEx hb4_0); (try replace hb4_1 := Ext.cell_some hEx hb4_1); clear hEx)) | ((with_reducible refine q_box (d := some 3) ?_); intro W3 g3 hE3 hB3 hg3; simp [Act.eval, Act.put, Value.cells] at hB3; (try replace hE := hE.trans hE3); (try replace hF := hF.ext hE3); (try replace hM := hM.ext hE3); (try replace hD := hD.ext hE3); (try replace hI1 := hI1.ext hE3); (try replace hI2 := hI2.ext hE3); (try replace hI12 := hI12.ext hE3); (try replace hB3 := hB3.ext hE3); (try replace hB4 := hB4.ext hE3); (try replace hb3_0 := Ext.cell_some hE3 hb3_0); (try replace hb3_1 := Ext.cell_some hE3 hb3_1); (try replace hb3_2 := Ext.cell_some hE3 hb3_2); (try replace hb4_0 := Ext.cell_some hE3 hb4_0); (try replace hb4_1 := Ext.cell_some hE3 hb4_1); (try replace hb4_2 := Ext.cell_some hE3 hb4_2); have hb3_0 := hB3.cell 0; have hb3_1 := hB3.cell 1; have hb3_2 := hB3.cell 2; simp at hb3_0 hb3_1 hb3_2; clear hE3) | ((with_reducible refine q_box (d := some 4) ?_); intro W4 g4 hE4 hB4 hg4; simp [Act.eval, Act.put, Value.cells] at hB4; (try replace hE := hE.trans hE4); (try replace hF := hF.ext hE4); (try replace hM := hM.ext hE4); (try replace hD := hD.ext hE4); (try replace hI1 := hI1.ext hE4); (try replace hI2 := hI2.ext hE4); (try replace hI12 := hI12.ext hE4); (try replace hB3 := hB3.ext hE4); (try replace hB4 := hB4.ext hE4); (try replace hb3_0 := Ext.cell_some hE4 hb3_0); (try replace hb3_1 := Ext.cell_some hE4 hb3_1); (try replace hb3_2 := Ext.cell_some hE4 hb3_2); (try replace hb4_0 := Ext.cell_some hE4 hb4_0); (try replace hb4_1 := Ext.cell_some hE4 hb4_1); (try replace hb4_2 := Ext.cell_some hE4 hb4_2); have hb4_0 := hB4.cell 0; have hb4_1 := hB4.cell 1; have hb4_2 := hB4.cell 2; simp at hb4_0 hb4_1 hb4_2; clear hE4))
    go_ret
    exact ⟨rfl, hE⟩
end Go.Bp
