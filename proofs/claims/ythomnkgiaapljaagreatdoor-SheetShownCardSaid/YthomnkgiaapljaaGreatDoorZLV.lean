import Derived.Test.YthomnkgiaapljaaGreatDoorM13
set_option maxRecDepth 100000
set_option linter.unusedSimpArgs false
set_option linter.unusedVariables false
namespace Go.Bp
open Go.RowKit Go.Proofs
def validB (c : Code) (s : Sheet) : Bool := decide (s.asked c = 0)
set_option maxHeartbeats 2000000 in
theorem valid_any (cv sv : Value) (c : Code) (s : Sheet) (w : World) (h : CodeV w cv c) (hsv : SheetV w sv s) :
    Calls Tryz.prog 46 #[cv, sv] w fun e w' => e = .returned (.bool (validB c s)) ∧ Ext w w' := by
  obtain ⟨fv, mv, rfl, hF, hM, hW⟩ := h
  have hE := Ext.refl w
  have HW := Lib.hid hW
  clear hW
  obtain ⟨kv, rfl, hK⟩ := hsv
  obtain ⟨A, cp, rfl, _, _, _, _⟩ := id hK
  obtain ⟨⟨y1, y2, er⟩, h1⟩ : ∃ x, c.check = x := ⟨_, rfl⟩
  have H1 := Lib.hid h1
  by_cases he : er = 0
  · have ho := Code.ok_of_check (show c.check.2.2 = 0 by rw [h1]; exact he)
    have Hv := Lib.hid (show validB c s = decide (s.err c = 0) by unfold validB Sheet.asked; simp [h1, he])
    subst he
    obtain ⟨ev, hev⟩ : ∃ e, s.err c = e := ⟨_, rfl⟩
    have Hev := Lib.hid hev; have Ho := Lib.hid ho
    rw [hev] at Hv
    clear h1 hev ho
    go_enter Tryz.func46, Tryz.ntmps46
    go_wp2_with (first | ((go_at_call 18; refine (RCheck_any _ c _ (CodeV.of hF hM HW.out)).mono ?_; rw [H1.out]; rintro e Wc ⟨rfl, hEx⟩; replace hE := Ext.trans hE hEx; replace hF := hF.ext hEx; replace hM := hM.ext hEx; replace hK := hK.ext hEx; (try replace hb2_0 := Ext.cell_some hEx hb2_0); (try replace hb2_1 := Ext.cell_some hEx hb2_1); (try replace hb2_2 := Ext.cell_some hEx hb2_2); (try replace hb3_0 := Ext.cell_some hEx hb3_0); (try replace hb3_1 := Ext.cell_some hEx hb3_1); clear hEx)) | ((go_at_call 96; refine (RSheet_any _ _ c s _ (CodeV.of hF hM HW.out) (SheetV.of hK) Ho.out).mono ?_; rw [Hev.out]; rintro e Wc ⟨rfl, hEx⟩; replace hE := Ext.trans hE hEx; clear hEx)) | ((with_reducible refine q_box (d := some 2) ?_); intro W2 g2 hE2 hB2 hg2; simp [Act.eval, Act.put, Value.cells] at hB2; (try replace hE := hE.trans hE2); (try replace hF := hF.ext hE2); (try replace hM := hM.ext hE2); (try replace hK := hK.ext hE2); (try replace hB2 := hB2.ext hE2); (try replace hB3 := hB3.ext hE2); (try replace hb2_0 := Ext.cell_some hE2 hb2_0); (try replace hb2_1 := Ext.cell_some hE2 hb2_1); (try replace hb2_2 := Ext.cell_some hE2 hb2_2); (try replace hb3_0 := Ext.cell_some hE2 hb3_0); (try replace hb3_1 := Ext.cell_some hE2 hb3_1); have hb2_0 := hB2.cell 0; have hb2_1 := hB2.cell 1; have hb2_2 := hB2.cell 2; simp at hb2_0 hb2_1 hb2_2; clear hE2) | ((with_reducible refine q_box (d := some 3) ?_); intro W3 g3 hE3 hB3 hg3; simp [Act.eval, Act.put, Value.cells] at hB3; (try replace hE := hE.trans hE3); (try replace hF := hF.ext hE3); (try replace hM := hM.ext hE3); (try replace hK := hK.ext hE3); (try replace hB2 := hB2.ext hE3); (try replace hB3 := hB3.ext hE3); (try replace hb2_0 := Ext.cell_some hE3 hb2_0); (try replace hb2_1 := Ext.cell_some hE3 hb2_1); (try replace hb2_2 := Ext.cell_some hE3 hb2_2); (try replace hb3_0 := Ext.cell_some hE3 hb3_0); (try replace hb3_1 := Ext.cell_some hE3 hb3_1); have hb3_0 := hB3.cell 0; have hb3_1 := hB3.cell 1; simp at hb3_0 hb3_1; clear hE3))
    go_ret
    exact ⟨by rw [Hv.out]; by_cases e : ev = 0 <;> simp [e], hE⟩
  · have Hv := Lib.hid (show validB c s = false by unfold validB Sheet.asked; simp [h1, he])
    have q : (er == 0) = false := by simp [he]
    clear h1 he
    go_enter Tryz.func46, Tryz.ntmps46
    go_wp2_with (first | ((go_at_call 18; refine (RCheck_any _ c _ (CodeV.of hF hM HW.out)).mono ?_; rw [H1.out]; rintro e Wc ⟨rfl, hEx⟩; replace hE := Ext.trans hE hEx; clear hEx)) | ((with_reducible refine q_box (d := some 2) ?_); intro W2 g2 hE2 hB2 hg2; simp [Act.eval, Act.put, Value.cells] at hB2; (try replace hE := hE.trans hE2); (try replace hF := hF.ext hE2); (try replace hM := hM.ext hE2); (try replace hK := hK.ext hE2); (try replace hB2 := hB2.ext hE2); (try replace hB3 := hB3.ext hE2); (try replace hb2_0 := Ext.cell_some hE2 hb2_0); (try replace hb2_1 := Ext.cell_some hE2 hb2_1); (try replace hb2_2 := Ext.cell_some hE2 hb2_2); (try replace hb3_0 := Ext.cell_some hE2 hb3_0); (try replace hb3_1 := Ext.cell_some hE2 hb3_1); have hb2_0 := hB2.cell 0; have hb2_1 := hB2.cell 1; have hb2_2 := hB2.cell 2; simp at hb2_0 hb2_1 hb2_2; clear hE2) | ((with_reducible refine q_box (d := some 3) ?_); intro W3 g3 hE3 hB3 hg3; simp [Act.eval, Act.put, Value.cells] at hB3; (try replace hE := hE.trans hE3); (try replace hF := hF.ext hE3); (try replace hM := hM.ext hE3); (try replace hK := hK.ext hE3); (try replace hB2 := hB2.ext hE3); (try replace hB3 := hB3.ext hE3); (try replace hb2_0 := Ext.cell_some hE3 hb2_0); (try replace hb2_1 := Ext.cell_some hE3 hb2_1); (try replace hb2_2 := Ext.cell_some hE3 hb2_2); (try replace hb3_0 := Ext.cell_some hE3 hb3_0); (try replace hb3_1 := Ext.cell_some hE3 hb3_1); have hb3_0 := hB3.cell 0; have hb3_1 := hB3.cell 1; simp at hb3_0 hb3_1; clear hE3))
    go_ret
    exact ⟨by rw [Hv.out]; rfl, hE⟩
/-- What chosen answers: those of the lines whose bits stand. -/
def bitAt (b : Int) (i : Nat) : Bool := (b / 2 ^ min i 8).tmod 2 == 1
def chosenTo (l : List Int) (b : Int) (k : Nat) : List Int := ((List.range k).filter (bitAt b)).map fun i => l.getD i 0
def chosenOf (s : Sheet) (b : Int) : List Int := chosenTo s.lost b s.lost.length
theorem chosenTo_succ (l : List Int) (b : Int) {k : Nat} (hk : k < l.length) : chosenTo l b (k + 1) = if bitAt b k = true then chosenTo l b k ++ [l[k]] else chosenTo l b k := by
  unfold chosenTo
  rw [List.range_succ, List.filter_append, List.map_append]
  by_cases h : bitAt b k = true
  · simp [h, List.getD, hk]
  · simp [h]
theorem chosenTo_len (l : List Int) (b : Int) (k : Nat) : (chosenTo l b k).length ≤ k := by
  unfold chosenTo
  rw [List.length_map]
  exact Nat.le_trans (List.length_filter_le _ _) (by simp)
theorem OwnI.lower {B B' : Nat} {w : World} {v : Value} {xs : List Int} (h : OwnI B w v xs) (hB : B' ≤ B) : OwnI B' w v xs := by
  obtain ⟨h1, h2⟩ := h
  refine ⟨h1, ?_⟩
  rcases h2 with h2 | ⟨g, cap, cur, ha, hb, hc⟩
  · exact .inl h2
  · exact .inr ⟨g, cap, cur, ha, Nat.le_trans hB hb, hc⟩
theorem lost_short (s : Sheet) (m : Nat) (h : s.lines = m) : s.lost.length ≤ m := by
  unfold Sheet.lost
  refine Nat.le_trans (List.length_filter_le _ _) ?_
  rw [h]; simp [numbers]
set_option maxHeartbeats 2000000 in
theorem chosen_any (sv : Value) (s : Sheet) (b : Int) (w : World) (hsv : SheetV w sv s) (m : Nat) (hm : s.lines = m) (hm2 : m ≤ 1000) (hb0 : 0 ≤ b) (hb1 : b ≤ 255) :
    Calls Tryz.prog 48 #[sv, .int .u8 b] w (Ret w fun v w' => OwnI w.heap.size w' v (chosenOf s b)) := by
  have hE := Ext.refl w
  obtain ⟨kv, rfl, hK⟩ := hsv
  obtain ⟨A, cp, rfl, _, _, _, _⟩ := id hK
  have hl1k : s.lost.length ≤ 1000 := Nat.le_trans (lost_short s m hm) hm2
  have Hm := Lib.hid hm
  clear hm
  go_enter Tryz.func48, Tryz.ntmps48
  go_wp2_with (first | ((go_at_call 47; refine (Lost_any _ s m _ (SheetV.of hK) Hm.out hm2).mono ?_; rintro e Wl ⟨lv, rfl, hL, hEx⟩; replace hE := Ext.trans hE hEx; clear hEx)) | ((with_reducible refine q_box (d := some 2) ?_); intro W2 g2 hE2 hB2 hg2; simp [Act.eval, Act.put, Value.cells] at hB2; (try replace hE := hE.trans hE2); (try replace hK := hK.ext hE2); (try replace hB2 := hB2.ext hE2); (try replace hb2_0 := Ext.cell_some hE2 hb2_0); (try replace hb2_1 := Ext.cell_some hE2 hb2_1); have hb2_0 := hB2.cell 0; have hb2_1 := hB2.cell 1; simp at hb2_0 hb2_1; clear hE2))
  have hll := s.lost.length
  obtain ⟨Al, cl, rfl, l1, l2, l3, l4⟩ := hL.ints
  unfold maxLen at l2
  have HL := Lib.hid hL
  clear l3 hL hll
  go_loopw [6, 7] (fun v i Wr => Ext Wl Wr ∧ ∃ k : Nat, k ≤ s.lost.length ∧ i = .int .i64 k ∧ OwnI Wl.heap.size Wr v (chosenTo s.lost b k)) (fun _ i _ => s.lost.length - (intOf i).toNat)
  case atStart => exact ⟨Ext.refl _, 0, by omega, rfl, OwnI.nil _ _⟩
  case round =>
    obtain ⟨hEr, k, hk, rfl, hO⟩ := hrel
    by_cases hlt : k < s.lost.length
    · obtain ⟨ad, rfl, hca⟩ := l4 (by omega)
      have eL := (hca.ext hEr).i hlt
      have z2 : IntKind.i64.wrap ((k : Int) + 1) = (k : Int) + 1 := IntWalk.i64_in _ (by omega)
      have Hs := Lib.hid (chosenTo_succ s.lost b hlt)
      have Hcl := Lib.hid (chosenTo_len s.lost b k)
      clear l4 hca
      cases hb : bitAt b k with
      | false =>
        have Hs2 := Lib.hid (show chosenTo s.lost b (k + 1) = chosenTo s.lost b k by rw [Hs.out, hb]; rfl)
        have hq : ((b / 2 ^ min k 8).tmod 2 == 1) = false := hb
        clear hb
        go_wp2
        go_roundw
        case rel => exact ⟨hEr, k + 1, by omega, by go_num, by rw [Hs2.out]; exact hO⟩
        case measure => simp [intOf]; omega
      | true =>
        have Hs2 := Lib.hid (show chosenTo s.lost b (k + 1) = chosenTo s.lost b k ++ [s.lost[k]] by rw [Hs.out, hb]; rfl)
        have hq : ((b / 2 ^ min k 8).tmod 2 == 1) = true := hb
        clear hb
        go_wp2_with (first | ((with_reducible refine q_bsI (d := some 26) (n := s.lost[k]) ?_ ?_); rfl; intro W26 g26 hE26 hB26 hg26; replace hEr := Ext.trans hEr hE26; replace hO := OwnI.ext hO hE26) | ((with_reducible refine q_appI (d := some 27) ?_ hO ?_ hB26 ?_ ?_ ?_); rfl; rfl; (have := Hcl.out; omega); exact hEr.size; intro v27 W27 hO27 hm27 hgr27; replace hEr := hm27 _ hEr))
        go_roundw
        case rel => exact ⟨hEr, k + 1, by omega, by go_num, by rw [Hs2.out]; exact hO27⟩
        case measure => simp [intOf]; omega
    · obtain rfl : k = s.lost.length := by omega
      clear l4
      go_wp2
      go_ret
      exact ⟨_, rfl, OwnI.lower hO hE.size, Ext.trans hE hEr⟩
end Go.Bp
