/- Texts R22 Spec15 R23 R24 R25 R26 Rf P1 of the proof, merged: contracts of functions of chapter 10, of the program and of the reference, and plain laws. -/
import Derived.Laws.RangeAny
import Derived.RangeFuncLeaves
import Derived.RangeFuncNested
import Derived.Test.YthomnkgiaapljaaGreatDoorM01
import Derived.Test.YthomnkgiaapljaaGreatDoorM05
section
set_option maxRecDepth 100000
set_option linter.unusedSimpArgs false
set_option linter.unusedVariables false
namespace Go.Bp
open Go.RowKit Go.Proofs
set_option maxHeartbeats 1000000 in
theorem Digits_any : ∀ (n : Nat) (w : World), n ≤ 1000000 → Calls Tryz.prog 114 #[.int .i64 n] w fun e w' => e = .returned (.string (S (digits n))) ∧ Ext w w' := by
  intro n
  induction n using Nat.strongRecOn with
  | ind n ih =>
  intro w hn
  have hE := Ext.refl w
  have Hb := Lib.hid (digB_nat n)
  by_cases h10 : 10 ≤ n
  · have hr := digits_big h10
    have HR := Lib.hid (show S (digits (n / 10)) ++ S [digB n] = S (digits n) by rw [S_app, hr]; rfl)
    have Hih := Lib.hid (ih (n / 10) (by omega))
    have Hc := Lib.hid (show ((n / 10 : Nat) : Int) = (n : Int) / 10 by omega)
    have Hsz := Lib.hid (show (S (digits (n / 10))).size + (S [digB n]).size ≤ 1000000000 by rw [S_size, S_size]; have := digits_len (n / 10); simp; omega)
    have q1 : (10 : Int) ≤ n := by omega
    clear hr ih
    go_enter Tryz.func114, Tryz.ntmps114
    go_wp2_with (first | ((with_reducible refine q_bsB (d := some 8) (n := 48 + (n : Int) % 10) ?_ ?_); rfl; intro W8 g8 hE8 hB8 hg8; replace hE := hE.trans hE8; rw [← Hb.out] at hB8) | ((with_reducible refine q_b2s (d := some 9) (b := digB n) ?_ hB8 ?_); rfl) | (go_at_call 114; ((with_reducible refine (show Calls Tryz.prog 114 #[.int .i64 ((n : Int) / 10)] _ _ from by rw [← Hc.out]; exact Hih.out _ (by omega)).mono ?_); rintro e W14 ⟨rfl, hE14⟩; replace hE := hE.trans hE14)) | ((with_reducible refine q_cat (d := some 16) (p := S (digits (n / 10))) (q := S [digB n]) (r := S (digits n)) ?_ ?_ HR.out Hsz.out ?_); rfl; rfl))
    go_ret
    exact ⟨rfl, hE⟩
  · have hr := digits_small (n := n) (by omega)
    have HR := Lib.hid (show S [digB n] = S (digits n) by rw [hr]; rfl)
    have q1 : ¬ (10 : Int) ≤ n := by omega
    clear hr ih
    go_enter Tryz.func114, Tryz.ntmps114
    go_wp2_with (first | ((with_reducible refine q_bsB (d := some 8) (n := 48 + (n : Int) % 10) ?_ ?_); rfl; intro W8 g8 hE8 hB8 hg8; replace hE := hE.trans hE8; rw [← Hb.out] at hB8) | ((with_reducible refine q_b2s (d := some 9) (b := digB n) ?_ hB8 ?_); rfl))
    go_ret
    exact ⟨by rw [← HR.out]; rfl, hE⟩
end Go.Bp
namespace Go.Bp
open Go.RowKit Go.Proofs
theorem Cells.sAt {w : World} {ad : Addr} {xs : List ByteArray} {k : Nat} (h : Cells w ad (encS xs)) (hk : k < xs.length) : w.cell? (ad.add k) = some (.string (xs.getD k ByteArray.empty)) := by
  rw [getD_eq hk]; exact h.s hk
set_option maxHeartbeats 3000000 in
theorem RText_any (cv sv : Value) (c : Code) (s : Sheet) (w : World) (h : CodeV w cv c) (hsv : SheetV w sv s) (ho : c.Ok) (hs : s.Ok c) :
    Calls Tryz.prog 87 #[cv, sv] w fun e w' => e = .returned (.string (S (textOf c s))) ∧ Ext w w' := by
  obtain ⟨fv, mv, rfl, hF, hM, hW⟩ := h
  obtain ⟨kv, rfl, hK⟩ := hsv
  obtain ⟨A, cp, rfl, h1, h2, h3, h4⟩ := hK
  unfold maxLen at h2
  clear h3
  have hE := Ext.refl w
  have HW := Lib.hid hW
  have Ho := Lib.hid ho
  have Hs := Lib.hid hs
  have hs1 := hs.l1
  have hs2 := hs.l2
  have hkl := hs.keptLen
  have Hcb := Lib.hid (show c.faults.length ≤ 1000000 ∧ c.man.length ≤ 1000000 from ⟨by have := ho.nf2; omega, by have := ho.nm; omega⟩)
  obtain ⟨L, hL⟩ : ∃ L : Nat, s.lines = L := ⟨s.lines.toNat, by omega⟩
  have hLt : s.lines.toNat = L := by omega
  have Hst := Lib.hid (show S (digits L) ++ { data := #[10] } = S (textTo c s 0) by rw [show ({ data := #[10] } : ByteArray) = S [10] from rfl, S_app]; unfold textTo; rw [hLt]; simp)
  have Hsz := Lib.hid (show (S (digits L)).size + (⟨#[10]⟩ : ByteArray).size ≤ 1000000000 by rw [S_size]; have := digits_len L; have : (⟨#[10]⟩ : ByteArray).size = 1 := rfl; omega)
  rw [hL]
  have hL12 : L ≤ 12 := by omega
  clear hW ho hs hL hLt
  go_enter Tryz.func87, Tryz.ntmps87
  go_wp2_with (first | (go_at_call 114; ((with_reducible refine (Digits_any L _ (by omega)).mono ?_); rintro e Wc1 ⟨rfl, hEc1⟩; (try replace hEc1 := Ext.undrew hEc1); (try replace hE := hE.trans hEc1); (try replace hF := hF.ext hEc1); (try replace hM := hM.ext hEc1); (try replace hB2 := hB2.ext hEc1); (try replace hB3 := hB3.ext hEc1); (try replace hb2_0 := Ext.cell_some hEc1 hb2_0); (try replace hb2_1 := Ext.cell_some hEc1 hb2_1); (try replace hb2_2 := Ext.cell_some hEc1 hb2_2); (try replace hb3_0 := Ext.cell_some hEc1 hb3_0); (try replace hb3_1 := Ext.cell_some hEc1 hb3_1))) | (((with_reducible refine q_cat (d := some 12) (p := S (digits L)) (q := ⟨#[10]⟩) (r := S (textTo c s 0)) ?_ ?_ Hst.out Hsz.out ?_); rfl; rfl)) | (go_at_call 57; ((with_reducible refine (Names_any _ c _ (by exact CodeV.of hF hM HW.out) Hcb.out).mono ?_); rintro e WcN ⟨v57, rfl, hO57, hEcN⟩; (try replace hEcN := Ext.undrew hEcN); (try replace hE := hE.trans hEcN); (try replace hF := hF.ext hEcN); (try replace hM := hM.ext hEcN); (try replace hB2 := hB2.ext hEcN); (try replace hB3 := hB3.ext hEcN); (try replace hb2_0 := Ext.cell_some hEcN hb2_0); (try replace hb2_1 := Ext.cell_some hEcN hb2_1); (try replace hb2_2 := Ext.cell_some hEcN hb2_2); (try replace hb3_0 := Ext.cell_some hEcN hb3_0); (try replace hb3_1 := Ext.cell_some hEcN hb3_1))) | ((with_reducible refine q_box (d := some 2) ?_); intro W2 g2 hE2 hB2 hg2; simp [Act.eval, Act.put, Value.cells] at hB2; (try replace hE := hE.trans hE2); (try replace hF := hF.ext hE2); (try replace hM := hM.ext hE2); (try replace hB2 := hB2.ext hE2); (try replace hB3 := hB3.ext hE2); (try replace hb2_0 := Ext.cell_some hE2 hb2_0); (try replace hb2_1 := Ext.cell_some hE2 hb2_1); (try replace hb2_2 := Ext.cell_some hE2 hb2_2); (try replace hb3_0 := Ext.cell_some hE2 hb3_0); (try replace hb3_1 := Ext.cell_some hE2 hb3_1); have hb2_0 := hB2.cell 0; have hb2_1 := hB2.cell 1; have hb2_2 := hB2.cell 2; simp at hb2_0 hb2_1 hb2_2; clear hE2) | ((with_reducible refine q_box (d := some 3) ?_); intro W3 g3 hE3 hB3 hg3; simp [Act.eval, Act.put, Value.cells] at hB3; (try replace hE := hE.trans hE3); (try replace hF := hF.ext hE3); (try replace hM := hM.ext hE3); (try replace hB2 := hB2.ext hE3); (try replace hB3 := hB3.ext hE3); (try replace hb2_0 := Ext.cell_some hE3 hb2_0); (try replace hb2_1 := Ext.cell_some hE3 hb2_1); (try replace hb2_2 := Ext.cell_some hE3 hb2_2); (try replace hb3_0 := Ext.cell_some hE3 hb3_0); (try replace hb3_1 := Ext.cell_some hE3 hb3_1); have hb3_0 := hB3.cell 0; have hb3_1 := hB3.cell 1; simp at hb3_0 hb3_1; clear hE3))
  obtain ⟨Wl, hWl⟩ : ∃ W, W = WcN := ⟨_, rfl⟩
  subst hWl
  have hN := hO57.strs
  obtain ⟨A57, c57, rfl, n1, n2, n3, n4⟩ := hN
  unfold maxLen at n2
  have hnl := c.names_len
  rw [hnl] at n1 n4 ⊢
  have ht1 := Ho.out.thing1
  clear hnl n3
  obtain ⟨adn, rfl, hcn⟩ := n4 (by omega)
  have kE := hE
  go_loopw [5, 7] (fun v i wr => Ext Wl wr ∧ ∃ k : Nat, k ≤ s.kept.length ∧ i = .int .i64 k ∧ v = .string (S (textTo c s k))) (fun _ i _ => s.kept.length - (intOf i).toNat)
  case atStart => exact ⟨Ext.refl _, 0, by omega, rfl, rfl⟩
  case round =>
    obtain ⟨hEr, k, hk, rfl, rfl⟩ := hrel
    (try replace hE := hE.trans hEr); (try replace hF := hF.ext hEr); (try replace hM := hM.ext hEr); (try replace hB2 := hB2.ext hEr); (try replace hB3 := hB3.ext hEr); (try replace hb2_0 := Ext.cell_some hEr hb2_0); (try replace hb2_1 := Ext.cell_some hEr hb2_1); (try replace hb2_2 := Ext.cell_some hEr hb2_2); (try replace hb3_0 := Ext.cell_some hEr hb3_0); (try replace hb3_1 := Ext.cell_some hEr hb3_1)
    have Htl := Lib.hid (textTo_len Ho.out Hs.out k hk)
    by_cases hlt : k < s.kept.length
    · obtain ⟨ad, rfl, hc⟩ := h4 (by omega)
      have eS := ld_l (hc.ext hE) hlt
      have hlo := Hs.out.line _ (List.getElem_mem hlt)
      have Hlo := Lib.hid hlo
      obtain ⟨no, hno⟩ : ∃ n : Nat, s.kept[k].no = n := ⟨s.kept[k].no.toNat, by have := hlo.no1; omega⟩
      obtain ⟨wh, hwh⟩ : ∃ n : Nat, s.kept[k].what = n := ⟨s.kept[k].what.toNat, by have := hlo.what1; omega⟩
      obtain ⟨su, hsu⟩ : ∃ n : Nat, s.kept[k].sum = n := ⟨s.kept[k].sum.toNat, by have := hlo.sum1; omega⟩
      have hno2 : no ≤ 12 := by have := hlo.no2; omega
      have hwh2 : wh < c.things := by have := hlo.what2; omega
      have hsu2 : su ≤ 240 := by have := hlo.sum2; omega
      have hrow : rowText c s.kept[k] = digits no ++ [32] ++ nameAt c wh ++ [32] ++ digits su ++ [10] := by unfold rowText; rw [hno, hwh, hsu]; rfl
      have hts := textTo_succ c s hlt
      rw [hrow] at hts
      have Hts := Lib.hid hts
      have hnm := (Ho.out.nameSize hwh2).2
      have eN0 := hcn.sAt (k := wh) (by rw [c.names_len]; exact hwh2)
      have eN := Ext.cell_some hEr eN0
      obtain ⟨nm, hnm2⟩ : ∃ nm, c.names.getD wh ByteArray.empty = nm := ⟨_, rfl⟩
      rw [hnm2] at eN hnm
      have Hna := Lib.hid (show nameAt c wh = nm.data.toList by unfold nameAt; rw [show ((wh : Int)).toNat = wh by omega, hnm2])
      rw [hno, hwh, hsu] at eS
      obtain ⟨T, hT⟩ : ∃ T, textTo c s k = T := ⟨_, rfl⟩
      rw [hT] at Htl Hts ⊢
      have Hl1 := Lib.hid (digits_len no)
      have Hl2 := Lib.hid (digits_len su)
      have hTl : T.length ≤ 5000 := by have := Htl.out; omega
      have z0 : (0 : Int) ≤ wh := by omega
      have z1 : (wh : Int) < c.things := by omega
      have z2 : ((wh : Int)).toNat = wh := by omega
      clear hlo hno hwh hsu hrow hts hnm2 hT hcn eN0 hc h4
      go_wp2_with (first | ((with_reducible refine q_load (d := some 26) (hl := eS) ?_ ?_); rfl) | ((with_reducible refine q_newvar (e := 99) (u := 8) (v := .agg #[.int .i64 (no : Int), .int .i64 (wh : Int), .int .i64 (su : Int)]) ti99 ?_ ?_ ?_ ?_ ?_ ?_); (intro g; rfl); (intro g; rfl); rfl; rfl; (simp [Value.cells, Value.oneCell']); intro W8 g8 hE8 hB8 hg8; simp [Value.cells] at hB8; replace hEr := hEr.trans hE8; replace hE := hE.trans hE8; replace eN := Ext.cell_some hE8 eN))
      have e80 := hB8.cell 0; have e81 := hB8.cell 1; have e82 := hB8.cell 2
      simp at e80 e81 e82
      have hZ := Ext.todrew (Ext.refl W8)
      refine wp_region_tree (.take 0 (.take 1 (.take 2 (.take 6 (.take 7 (.take 8 (.take 9 (.take 10 (.take 13 (.take 14 (.one 3 (.take 4 (.take 5 (.take 11 (.take 12 (.one 15 (.take 16 (.take 17 (.take 18 .nil))))))))))))))))))) (fun w' => w'.cell? ⟨g8, 0, none⟩ = some (.int .i64 no) ∧ w'.cell? ⟨g8, 1, none⟩ = some (.int .i64 wh) ∧ w'.cell? ⟨g8, 2, none⟩ = some (.int .i64 su) ∧ w'.cell? (adn.add wh) = some (.string nm)) (by kernel_rfl) (by kernel_rfl) (by kernel_rfl) (by kernel_rfl) (fun _ _ _ _ _ h => h) ?_ (fun hHeld => ?_)
      · (first | exact True.intro | ((try dsimp only); (repeat' apply And.intro) <;> first | assumption | (refine Ext.cell_some (Ext.todrew (Ext.refl _)) ?_; assumption)))
      refine t_take (i := 0) (v := ?_) (by (simp only [List.getElem?_toArray, List.getElem?_cons_succ, List.getElem?_cons_zero]); rfl) (by rfl) ?_ (by exact hHeld) ?_
      rotate_left
      · (intro wq hSw; (try dsimp only at hSw); go_simp; (try with_reducible rfl))
      (try simp only [Act.put, List.setIfInBounds_toArray, List.set_cons_zero, List.set_cons_succ])
      refine t_take (i := 1) (v := ?_) (by (simp only [List.getElem?_toArray, List.getElem?_cons_succ, List.getElem?_cons_zero]); rfl) (by rfl) ?_ (by exact hHeld) ?_
      rotate_left
      · (intro wq hSw; (try dsimp only at hSw); go_simp; (try with_reducible rfl))
      (try simp only [Act.put, List.setIfInBounds_toArray, List.set_cons_zero, List.set_cons_succ])
      refine t_take (i := 2) (v := ?_) (by (simp only [List.getElem?_toArray, List.getElem?_cons_succ, List.getElem?_cons_zero]); rfl) (by rfl) ?_ (by exact hHeld) ?_
      rotate_left
      · (intro wq hSw; (try dsimp only at hSw); go_simp; (try with_reducible rfl))
      (try simp only [Act.put, List.setIfInBounds_toArray, List.set_cons_zero, List.set_cons_succ])
      refine t_take (i := 6) (v := ?_) (by (simp only [List.getElem?_toArray, List.getElem?_cons_succ, List.getElem?_cons_zero]); rfl) (by rfl) ?_ (by exact hHeld) ?_
      rotate_left
      · (intro wq hSw; (try dsimp only at hSw); go_simp; (try with_reducible rfl))
      (try simp only [Act.put, List.setIfInBounds_toArray, List.set_cons_zero, List.set_cons_succ])
      refine t_take (i := 7) (v := ?_) (by (simp only [List.getElem?_toArray, List.getElem?_cons_succ, List.getElem?_cons_zero]); rfl) (by rfl) ?_ (by exact hHeld) ?_
      rotate_left
      · (intro wq hSw; (try dsimp only at hSw); go_simp; (try with_reducible rfl))
      (try simp only [Act.put, List.setIfInBounds_toArray, List.set_cons_zero, List.set_cons_succ])
      refine t_take (i := 8) (v := ?_) (by (simp only [List.getElem?_toArray, List.getElem?_cons_succ, List.getElem?_cons_zero]); rfl) (by rfl) ?_ (by exact hHeld) ?_
      rotate_left
      · (intro wq hSw; (try dsimp only at hSw); go_simp; (try with_reducible rfl))
      (try simp only [Act.put, List.setIfInBounds_toArray, List.set_cons_zero, List.set_cons_succ])
      refine t_take (i := 9) (v := ?_) (by (simp only [List.getElem?_toArray, List.getElem?_cons_succ, List.getElem?_cons_zero]); rfl) (by rfl) ?_ (by exact hHeld) ?_
      rotate_left
      · (intro wq hSw; (try dsimp only at hSw); go_simp; (try with_reducible rfl))
      (try simp only [Act.put, List.setIfInBounds_toArray, List.set_cons_zero, List.set_cons_succ])
      refine t_take (i := 10) (v := ?_) (by (simp only [List.getElem?_toArray, List.getElem?_cons_succ, List.getElem?_cons_zero]); rfl) (by rfl) ?_ (by exact hHeld) ?_
      rotate_left
      · (intro wq hSw; (try dsimp only at hSw); go_simp; (try with_reducible rfl))
      (try simp only [Act.put, List.setIfInBounds_toArray, List.set_cons_zero, List.set_cons_succ])
      refine t_take (i := 13) (v := ?_) (by (simp only [List.getElem?_toArray, List.getElem?_cons_succ, List.getElem?_cons_zero]); rfl) (by rfl) ?_ (by exact hHeld) ?_
      rotate_left
      · (intro wq hSw; (try dsimp only at hSw); go_simp; (try with_reducible rfl))
      (try simp only [Act.put, List.setIfInBounds_toArray, List.set_cons_zero, List.set_cons_succ])
      refine t_take (i := 14) (v := ?_) (by (simp only [List.getElem?_toArray, List.getElem?_cons_succ, List.getElem?_cons_zero]); rfl) (by rfl) ?_ (by exact hHeld) ?_
      rotate_left
      · (intro wq hSw; (try dsimp only at hSw); go_simp; (try with_reducible rfl))
      (try simp only [Act.put, List.setIfInBounds_toArray, List.set_cons_zero, List.set_cons_succ])
      refine t_one (i := 3) (by (simp only [List.getElem?_toArray, List.getElem?_cons_succ, List.getElem?_cons_zero]); rfl) ?_
      ((refine q_call (by rfl) (Digits_any no _ (by omega)) (by go_simp) ?_; rintro e W30 ⟨rfl, hE30⟩; refine ⟨_, rfl, ?_⟩; replace hZ := hZ.trans hE30; have f1 := Ext.cell_some hZ e80; have f2 := Ext.cell_some hZ e81; have f3 := Ext.cell_some hZ e82; have f4 := Ext.cell_some hZ eN))
      clear hHeld; refine t_next ?_ (fun hHeld => ?_)
      · (first | exact True.intro | ((try dsimp only); (repeat' apply And.intro) <;> first | assumption | (refine Ext.cell_some (Ext.todrew (Ext.refl _)) ?_; assumption)))
      (try simp only [Act.put, List.setIfInBounds_toArray, List.set_cons_zero, List.set_cons_succ])
      refine t_take (i := 4) (v := .string (S (T ++ digits no))) (by (simp only [List.getElem?_toArray, List.getElem?_cons_succ, List.getElem?_cons_zero]); rfl) (by rfl) ?_ (by exact hHeld) ?_
      · exact run_cat (by rfl) (by rfl) (S_app _ _) (by rw [S_size, S_size]; have := Hl1.out; omega)
      (try simp only [Act.put, List.setIfInBounds_toArray, List.set_cons_zero, List.set_cons_succ])
      refine t_take (i := 5) (v := .string (S (T ++ digits no ++ [32]))) (by (simp only [List.getElem?_toArray, List.getElem?_cons_succ, List.getElem?_cons_zero]); rfl) (by rfl) ?_ (by exact hHeld) ?_
      · exact run_cat (q := S [32]) (by rfl) (by rfl) (S_app _ _) (by rw [S_size, S_size]; have := Hl1.out; simp; omega)
      (try simp only [Act.put, List.setIfInBounds_toArray, List.set_cons_zero, List.set_cons_succ])
      refine t_take (i := 11) (v := .string (S (T ++ digits no ++ [32] ++ nm.data.toList))) (by (simp only [List.getElem?_toArray, List.getElem?_cons_succ, List.getElem?_cons_zero]); rfl) (by rfl) ?_ (by exact hHeld) ?_
      · exact run_cat (q := nm) (by rfl) (by rfl) (by rw [← S_app _ nm.data.toList, S_data]) (by rw [S_size]; have := Hl1.out; simp; omega)
      (try simp only [Act.put, List.setIfInBounds_toArray, List.set_cons_zero, List.set_cons_succ])
      refine t_take (i := 12) (v := .string (S (T ++ digits no ++ [32] ++ nm.data.toList ++ [32]))) (by (simp only [List.getElem?_toArray, List.getElem?_cons_succ, List.getElem?_cons_zero]); rfl) (by rfl) ?_ (by exact hHeld) ?_
      · exact run_cat (q := S [32]) (by rfl) (by rfl) (S_app _ _) (by rw [S_size, S_size]; have := Hl1.out; have : nm.data.toList.length = nm.size := rfl; simp only [List.length_append, List.length_singleton]; omega)
      (try simp only [Act.put, List.setIfInBounds_toArray, List.set_cons_zero, List.set_cons_succ])
      refine t_one (i := 15) (by (simp only [List.getElem?_toArray, List.getElem?_cons_succ, List.getElem?_cons_zero]); rfl) ?_
      ((refine q_call (by rfl) (Digits_any su _ (by omega)) (by go_simp) ?_; rintro e W42 ⟨rfl, hE42⟩; refine ⟨_, rfl, ?_⟩; replace hZ := hZ.trans hE42; have f1 := Ext.cell_some hZ e80; have f2 := Ext.cell_some hZ e81; have f3 := Ext.cell_some hZ e82; have f4 := Ext.cell_some hZ eN))
      clear hHeld; refine t_next ?_ (fun hHeld => ?_)
      · (first | exact True.intro | ((try dsimp only); (repeat' apply And.intro) <;> first | assumption | (refine Ext.cell_some (Ext.todrew (Ext.refl _)) ?_; assumption)))
      (try simp only [Act.put, List.setIfInBounds_toArray, List.set_cons_zero, List.set_cons_succ])
      refine t_take (i := 16) (v := .string (S (T ++ digits no ++ [32] ++ nm.data.toList ++ [32] ++ digits su))) (by (simp only [List.getElem?_toArray, List.getElem?_cons_succ, List.getElem?_cons_zero]); rfl) (by rfl) ?_ (by exact hHeld) ?_
      · exact run_cat (by rfl) (by rfl) (S_app _ _) (by rw [S_size, S_size]; have := Hl1.out; have := Hl2.out; have : nm.data.toList.length = nm.size := rfl; simp only [List.length_append, List.length_singleton]; omega)
      (try simp only [Act.put, List.setIfInBounds_toArray, List.set_cons_zero, List.set_cons_succ])
      refine t_take (i := 17) (v := .string (S (T ++ digits no ++ [32] ++ nm.data.toList ++ [32] ++ digits su ++ [10]))) (by (simp only [List.getElem?_toArray, List.getElem?_cons_succ, List.getElem?_cons_zero]); rfl) (by rfl) ?_ (by exact hHeld) ?_
      · exact run_cat (q := S [10]) (by rfl) (by rfl) (S_app _ _) (by rw [S_size, S_size]; have := Hl1.out; have := Hl2.out; have : nm.data.toList.length = nm.size := rfl; simp only [List.length_append, List.length_singleton]; omega)
      (try simp only [Act.put, List.setIfInBounds_toArray, List.set_cons_zero, List.set_cons_succ])
      refine t_take (i := 18) (v := ?_) (by (simp only [List.getElem?_toArray, List.getElem?_cons_succ, List.getElem?_cons_zero]); rfl) (by rfl) ?_ (by exact hHeld) ?_
      rotate_left
      · (intro wq hSw; (try dsimp only at hSw); go_simp; (try with_reducible rfl))
      (try simp only [Act.put, List.setIfInBounds_toArray, List.set_cons_zero, List.set_cons_succ])
      refine t_done ?_
      (go_wp2; go_roundw; (case rel => exact ⟨hEr.trans hZ, k + 1, by omega, by go_num, by rw [Hts.out, Hna.out]; simp [List.append_assoc]⟩); (case measure => simp [intOf]; omega))
    · obtain rfl : k = s.kept.length := by omega
      have Hr := Lib.hid (show textOf c s = textTo c s s.kept.length by unfold textOf textTo; rw [List.take_length])
      clear h4
      go_wp2
      go_ret
      exact ⟨by rw [Hr.out]; rfl, hE⟩
end Go.Bp
end
section
/- Plain Lean: reading texts. -/
namespace Go.Bp
open Go.RowKit
def writeAns (c : Code) (s : Sheet) : List UInt8 × Int := if s.asked c ≠ 0 then ([], s.asked c) else (textOf c s, 0)
/-- The parts of the first i bytes of a string that are closed, and where the next one begins. -/
def splTo (s : ByteArray) (b : UInt8) : Nat → List ByteArray × Nat
  | 0 => ([], 0)
  | i + 1 => if s.data.toList.getD i 0 = b then ((splTo s b i).1 ++ [s.extract (splTo s b i).2 i], i + 1) else splTo s b i
def split (s : ByteArray) (b : UInt8) : List ByteArray := (splTo s b s.size).1 ++ [s.extract (splTo s b s.size).2 s.size]
theorem splTo_le (s : ByteArray) (b : UInt8) : ∀ i, (splTo s b i).1.length ≤ i ∧ (splTo s b i).2 ≤ i
  | 0 => by simp [splTo]
  | i + 1 => by
    have := splTo_le s b i
    unfold splTo
    split
    · simp; omega
    · omega
theorem getD_byte {s : ByteArray} {i : Nat} (hi : i < s.size) : s.data.toList.getD i 0 = s[i] := by
  simp only [List.getD]
  rw [List.getElem?_eq_getElem (show i < s.data.toList.length from hi)]; rfl
theorem splTo_hit {s : ByteArray} {b : UInt8} {i : Nat} (hi : i < s.size) (h : s[i] = b) : splTo s b (i + 1) = ((splTo s b i).1 ++ [s.extract (splTo s b i).2 i], i + 1) := by
  have : s.data.toList.getD i 0 = b := by rw [getD_byte hi, h]
  rw [splTo, if_pos this]
theorem splTo_miss {s : ByteArray} {b : UInt8} {i : Nat} (hi : i < s.size) (h : s[i] ≠ b) : splTo s b (i + 1) = splTo s b i := by
  have : s.data.toList.getD i 0 ≠ b := by rw [getD_byte hi]; exact h
  rw [splTo, if_neg this]
theorem split_len (s : ByteArray) (b : UInt8) : 1 ≤ (split s b).length ∧ (split s b).length ≤ s.size + 1 := by
  have := (splTo_le s b s.size).1
  unfold split; rw [List.length_append]; simp; omega
def isDig (b : UInt8) : Bool := inB b.toNat 48 57
def numTo (s : ByteArray) (k : Nat) : Int := (s.data.toList.take k).foldl (fun n b => 10 * n + ((b.toNat : Int) - 48)) 0
def numOf (s : ByteArray) : Int := if inB s.size 1 3 = true ∧ s.data.toList.all isDig = true then numTo s s.size else -1
theorem numTo_succ {s : ByteArray} {k : Nat} (hk : k < s.size) : numTo s (k + 1) = 10 * numTo s k + ((s[k].toNat : Int) - 48) := by
  unfold numTo
  rw [take_snoc _ (show k < s.data.toList.length from hk), List.foldl_append]; rfl
theorem numTo_bd {s : ByteArray} : ∀ k, k ≤ s.size → (∀ b ∈ s.data.toList.take k, isDig b = true) → 0 ≤ numTo s k ∧ numTo s k < 10 ^ k
  | 0, _, _ => by simp [numTo]
  | k + 1, hk, h => by
    have hk' : k < s.size := by omega
    have hb : isDig s[k] = true := h _ (by rw [take_snoc _ (show k < s.data.toList.length from hk')]; simp; right; rfl)
    have ih := numTo_bd (s := s) k (by omega) (fun b hb => h b (by rw [take_snoc _ (show k < s.data.toList.length from hk')]; simp only [List.mem_append]; exact .inl hb))
    have := inB_t.1 hb
    rw [numTo_succ hk', Int.pow_succ]
    omega
theorem numOf_ok {s : ByteArray} (h : inB s.size 1 3 = true) (h2 : ∀ b ∈ s.data.toList, isDig b = true) : numOf s = numTo s s.size := by
  unfold numOf; rw [if_pos ⟨h, List.all_eq_true.2 h2⟩]
theorem numOf_bad1 {s : ByteArray} (h : inB s.size 1 3 = false) : numOf s = -1 := by unfold numOf; rw [if_neg (by simp [h])]
theorem numOf_bad2 {s : ByteArray} {b : UInt8} (hb : b ∈ s.data.toList) (h : isDig b = false) : numOf s = -1 := by
  unfold numOf
  rw [if_neg]
  intro ⟨_, h2⟩
  rw [List.all_eq_true.1 h2 b hb] at h
  cases h
/-- What and Sum of a line, as the first k names say. -/
def findTo (names w : List ByteArray) : Nat → Int × Int
  | 0 => (-1, 0)
  | k + 1 => if names.getD k ByteArray.empty = w.getD 1 ByteArray.empty then ((k : Int), numOf (w.getD 2 ByteArray.empty)) else findTo names w k
def lineOf (c : Code) (row : ByteArray) : Line :=
  let w := split row 32
  let f := if w.length = 3 then findTo c.names w c.names.length else (-1, 0)
  ⟨numOf (w.getD 0 ByteArray.empty), f.1, f.2⟩
def rowsOf (c : Code) (rows : List ByteArray) (k : Nat) : List Line := ((rows.drop 1).take k).map (lineOf c)
def parsedOf (c : Code) (text : ByteArray) : Sheet := ⟨numOf ((split text 10).getD 0 ByteArray.empty), rowsOf c (split text 10) ((split text 10).length - 2)⟩
def readErr (c : Code) (text : ByteArray) : Int := if c.check.2.2 ≠ 0 then c.check.2.2 else if text.size ≤ 600 then 0 else 3
def readAns (c : Code) (text : ByteArray) : Sheet × Int :=
  if readErr c text ≠ 0 then (⟨0, []⟩, readErr c text) else if (parsedOf c text).err c = 0 ∧ S (textOf c (parsedOf c text)) = text then (parsedOf c text, 0) else (⟨0, []⟩, 6)
theorem rowsOf_succ (c : Code) (rows : List ByteArray) {k : Nat} (hk : k + 1 < rows.length) : rowsOf c rows (k + 1) = rowsOf c rows k ++ [lineOf c rows[k + 1]] := by
  unfold rowsOf
  rw [take_snoc _ (show k < (rows.drop 1).length by rw [List.length_drop]; omega), List.map_append]
  simp
end Go.Bp
namespace Go.Bp
theorem splTo_size (s : ByteArray) (b : UInt8) : ∀ i, ∀ x ∈ (splTo s b i).1, x.size ≤ s.size
  | 0 => by simp [splTo]
  | i + 1 => by
    intro x hx
    unfold splTo at hx
    split at hx
    · rcases List.mem_append.1 hx with hx | hx
      · exact splTo_size s b i x hx
      · simp at hx; subst hx; simp only [ByteArray.size_extract]; omega
    · exact splTo_size s b i x hx
theorem split_size {s : ByteArray} {b : UInt8} : ∀ x ∈ split s b, x.size ≤ s.size := by
  intro x hx
  unfold split at hx
  rcases List.mem_append.1 hx with hx | hx
  · exact splTo_size s b _ x hx
  · simp at hx; subst hx; simp only [ByteArray.size_extract]; omega
theorem findTo_hit {names w : List ByteArray} {k : Nat} (h : names.getD k ByteArray.empty = w.getD 1 ByteArray.empty) : findTo names w (k + 1) = ((k : Int), numOf (w.getD 2 ByteArray.empty)) := by rw [findTo, if_pos h]
theorem findTo_miss {names w : List ByteArray} {k : Nat} (h : names.getD k ByteArray.empty ≠ w.getD 1 ByteArray.empty) : findTo names w (k + 1) = findTo names w k := by rw [findTo, if_neg h]
theorem lineOf_3 {c : Code} {row : ByteArray} (h : (split row 32).length = 3) : lineOf c row = ⟨numOf ((split row 32).getD 0 ByteArray.empty), (findTo c.names (split row 32) c.names.length).1, (findTo c.names (split row 32) c.names.length).2⟩ := by unfold lineOf; simp [h]
theorem lineOf_n {c : Code} {row : ByteArray} (h : (split row 32).length ≠ 3) : lineOf c row = ⟨numOf ((split row 32).getD 0 ByteArray.empty), -1, 0⟩ := by unfold lineOf; simp [h]
theorem numOf_le (s : ByteArray) : -1 ≤ numOf s ∧ numOf s < 1000 := by
  unfold numOf
  split
  · rename_i h
    have h1 := inB_t.1 h.1
    have h2 := numTo_bd (s := s) s.size (Nat.le_refl _) (fun b hb => List.all_eq_true.1 h.2 b (List.mem_of_mem_take hb))
    have : (10 : Int) ^ s.size ≤ 1000 := by
      have h3 : (10 : Nat) ^ s.size ≤ 10 ^ 3 := Nat.pow_le_pow_right (by decide) (by omega)
      have h4 : ((10 ^ s.size : Nat) : Int) ≤ 1000 := by have : (10 : Nat) ^ 3 = 1000 := rfl; omega
      simpa using h4
    omega
  · omega
end Go.Bp
end
section
set_option maxRecDepth 100000
set_option linter.unusedSimpArgs false
set_option linter.unusedVariables false
namespace Go.Bp
open Go.RowKit Go.Proofs
/-- A string and a number. -/
def RetTI (w : World) (t : List UInt8) (b : Int) (e : Ending) (w' : World) : Prop := e = .returned (.tuple #[.string (S t), .int .i64 b]) ∧ Ext w w'
set_option maxHeartbeats 2000000 in
theorem RWrite_any (cv sv : Value) (c : Code) (s : Sheet) (w : World) (h : CodeV w cv c) (hsv : SheetV w sv s) :
    Calls Tryz.prog 39 #[cv, sv] w (RetTI w (writeAns c s).1 (writeAns c s).2) := by
  obtain ⟨fv, mv, rfl, hF, hM, hW⟩ := h
  obtain ⟨kv, rfl, hK⟩ := hsv
  have hE := Ext.refl w
  have HW := Lib.hid hW
  clear hW
  by_cases ha : s.asked c = 0
  · obtain ⟨ho, hs⟩ := asked_zero ha
    have Ho := Lib.hid ho; have Hs := Lib.hid hs
    have q1 : (s.asked c != 0) = false := by simp [ha]
    have Hr := Lib.hid (show writeAns c s = (textOf c s, 0) by unfold writeAns; rw [if_neg (by simp [ha])])
    clear ha ho hs
    rw [Hr.out]
    go_enter Tryz.func39, Tryz.ntmps39
    go_wp2_with (first | (go_at_call 74; ((with_reducible refine (Rasked_any _ _ c s _ (by exact CodeV.of hF hM HW.out) (by exact SheetV.of hK)).mono ?_); rintro e Wc1 ⟨rfl, hEc1⟩; (try replace hEc1 := Ext.undrew hEc1); (try replace hE := hE.trans hEc1); (try replace hF := hF.ext hEc1); (try replace hM := hM.ext hEc1); (try replace hK := hK.ext hEc1); (try replace hB2 := hB2.ext hEc1); (try replace hB3 := hB3.ext hEc1); (try replace hb2_0 := Ext.cell_some hEc1 hb2_0); (try replace hb2_1 := Ext.cell_some hEc1 hb2_1); (try replace hb2_2 := Ext.cell_some hEc1 hb2_2); (try replace hb3_0 := Ext.cell_some hEc1 hb3_0); (try replace hb3_1 := Ext.cell_some hEc1 hb3_1))) | (go_at_call 87; ((with_reducible refine (RText_any _ _ c s _ (by exact CodeV.of hF hM HW.out) (by exact SheetV.of hK) Ho.out Hs.out).mono ?_); rintro e Wc2 ⟨rfl, hEc2⟩; (try replace hEc2 := Ext.undrew hEc2); (try replace hE := hE.trans hEc2); (try replace hF := hF.ext hEc2); (try replace hM := hM.ext hEc2); (try replace hK := hK.ext hEc2); (try replace hB2 := hB2.ext hEc2); (try replace hB3 := hB3.ext hEc2); (try replace hb2_0 := Ext.cell_some hEc2 hb2_0); (try replace hb2_1 := Ext.cell_some hEc2 hb2_1); (try replace hb2_2 := Ext.cell_some hEc2 hb2_2); (try replace hb3_0 := Ext.cell_some hEc2 hb3_0); (try replace hb3_1 := Ext.cell_some hEc2 hb3_1))) | ((with_reducible refine q_box (d := some 2) ?_); intro W2 g2 hE2 hB2 hg2; simp [Act.eval, Act.put, Value.cells] at hB2; (try replace hE := hE.trans hE2); (try replace hF := hF.ext hE2); (try replace hM := hM.ext hE2); (try replace hK := hK.ext hE2); (try replace hB2 := hB2.ext hE2); (try replace hB3 := hB3.ext hE2); (try replace hb2_0 := Ext.cell_some hE2 hb2_0); (try replace hb2_1 := Ext.cell_some hE2 hb2_1); (try replace hb2_2 := Ext.cell_some hE2 hb2_2); (try replace hb3_0 := Ext.cell_some hE2 hb3_0); (try replace hb3_1 := Ext.cell_some hE2 hb3_1); have hb2_0 := hB2.cell 0; have hb2_1 := hB2.cell 1; have hb2_2 := hB2.cell 2; simp at hb2_0 hb2_1 hb2_2; clear hE2) | ((with_reducible refine q_box (d := some 3) ?_); intro W3 g3 hE3 hB3 hg3; simp [Act.eval, Act.put, Value.cells] at hB3; (try replace hE := hE.trans hE3); (try replace hF := hF.ext hE3); (try replace hM := hM.ext hE3); (try replace hK := hK.ext hE3); (try replace hB2 := hB2.ext hE3); (try replace hB3 := hB3.ext hE3); (try replace hb2_0 := Ext.cell_some hE3 hb2_0); (try replace hb2_1 := Ext.cell_some hE3 hb2_1); (try replace hb2_2 := Ext.cell_some hE3 hb2_2); (try replace hb3_0 := Ext.cell_some hE3 hb3_0); (try replace hb3_1 := Ext.cell_some hE3 hb3_1); have hb3_0 := hB3.cell 0; have hb3_1 := hB3.cell 1; simp at hb3_0 hb3_1; clear hE3))
    go_ret2
    exact ⟨rfl, hE⟩
  · have q1 : (s.asked c != 0) = true := by simp [ha]
    have Hr := Lib.hid (show writeAns c s = ([], s.asked c) by unfold writeAns; rw [if_pos ha])
    clear ha
    rw [Hr.out]
    go_enter Tryz.func39, Tryz.ntmps39
    go_wp2_with (first | (go_at_call 74; ((with_reducible refine (Rasked_any _ _ c s _ (by exact CodeV.of hF hM HW.out) (by exact SheetV.of hK)).mono ?_); rintro e Wc3 ⟨rfl, hEc3⟩; (try replace hEc3 := Ext.undrew hEc3); (try replace hE := hE.trans hEc3); (try replace hF := hF.ext hEc3); (try replace hM := hM.ext hEc3); (try replace hK := hK.ext hEc3); (try replace hB2 := hB2.ext hEc3); (try replace hB3 := hB3.ext hEc3); (try replace hb2_0 := Ext.cell_some hEc3 hb2_0); (try replace hb2_1 := Ext.cell_some hEc3 hb2_1); (try replace hb2_2 := Ext.cell_some hEc3 hb2_2); (try replace hb3_0 := Ext.cell_some hEc3 hb3_0); (try replace hb3_1 := Ext.cell_some hEc3 hb3_1))) | ((with_reducible refine q_box (d := some 2) ?_); intro W2 g2 hE2 hB2 hg2; simp [Act.eval, Act.put, Value.cells] at hB2; (try replace hE := hE.trans hE2); (try replace hF := hF.ext hE2); (try replace hM := hM.ext hE2); (try replace hK := hK.ext hE2); (try replace hB2 := hB2.ext hE2); (try replace hB3 := hB3.ext hE2); (try replace hb2_0 := Ext.cell_some hE2 hb2_0); (try replace hb2_1 := Ext.cell_some hE2 hb2_1); (try replace hb2_2 := Ext.cell_some hE2 hb2_2); (try replace hb3_0 := Ext.cell_some hE2 hb3_0); (try replace hb3_1 := Ext.cell_some hE2 hb3_1); have hb2_0 := hB2.cell 0; have hb2_1 := hB2.cell 1; have hb2_2 := hB2.cell 2; simp at hb2_0 hb2_1 hb2_2; clear hE2) | ((with_reducible refine q_box (d := some 3) ?_); intro W3 g3 hE3 hB3 hg3; simp [Act.eval, Act.put, Value.cells] at hB3; (try replace hE := hE.trans hE3); (try replace hF := hF.ext hE3); (try replace hM := hM.ext hE3); (try replace hK := hK.ext hE3); (try replace hB2 := hB2.ext hE3); (try replace hB3 := hB3.ext hE3); (try replace hb2_0 := Ext.cell_some hE3 hb2_0); (try replace hb2_1 := Ext.cell_some hE3 hb2_1); (try replace hb2_2 := Ext.cell_some hE3 hb2_2); (try replace hb3_0 := Ext.cell_some hE3 hb3_0); (try replace hb3_1 := Ext.cell_some hE3 hb3_1); have hb3_0 := hB3.cell 0; have hb3_1 := hB3.cell 1; simp at hb3_0 hb3_1; clear hE3))
    go_ret2
    exact ⟨rfl, hE⟩
set_option maxHeartbeats 2000000 in
theorem Split_any (s : ByteArray) (b : UInt8) (w : World) (hs : s.size ≤ 100000) :
    Calls Tryz.prog 118 #[.string s, .int .u8 (b.toNat : Int)] w (Ret w fun v w' => OwnS w.heap.size w' v (split s b)) := by
  have hE := Ext.refl w
  go_enter Tryz.func118, Tryz.ntmps118
  go_wp2
  go_loopw [5, 6, 7] (fun v bg i wr => Ext w wr ∧ ∃ k : Nat, k ≤ s.size ∧ i = .int .i64 k ∧ bg = .int .i64 ((splTo s b k).2 : Nat) ∧ OwnS w.heap.size wr v (splTo s b k).1) (fun _ _ i _ => s.size - (intOf i).toNat)
  case atStart => exact ⟨Ext.refl _, 0, by omega, rfl, rfl, OwnS.nil _ _⟩
  case round =>
    obtain ⟨hEr, k, hk, rfl, rfl, hO⟩ := hrel
    obtain ⟨hl1, hl2⟩ := splTo_le s b k
    obtain ⟨B, hB⟩ : ∃ B, (splTo s b k).2 = B := ⟨_, rfl⟩
    have HBe := Lib.hid hB
    rw [hB] at hl2 ⊢
    have Hl1 := Lib.hid hl1
    clear hB hl1
    by_cases hlt : k < s.size
    · by_cases hb : s[k] = b
      · have hs2 := splTo_hit hlt hb
        rw [HBe.out] at hs2
        have Hs2 := Lib.hid hs2
        have q1 : ((s[k].toNat : Int) == (b.toNat : Int)) = true := by rw [hb]; simp
        clear hs2 hb
        go_wp2_with (first | ((with_reducible refine q_bsS (d := some 24) (n := s.extract B k) ?_ ?_); rfl; intro W24 g24 hE24 hB24 hg24; replace hEr := hEr.trans hE24; replace hO := hO.ext hE24) | (refine q_appS (d := some 25) rfl hO rfl hB24 (by have := Hl1.out; omega) (by have := hEr.size; omega) ?_; intro v25 W25 hO' hmono hgr; replace hEr := hmono _ hEr))
        go_roundw
        case rel => exact ⟨hEr, k + 1, by omega, by go_num, by rw [Hs2.out]; go_num, by rw [Hs2.out]; exact hO'⟩
        case measure => simp [intOf]; omega
      · have hs2 := splTo_miss hlt hb
        have Hs2 := Lib.hid hs2
        have q1 : ((s[k].toNat : Int) == (b.toNat : Int)) = false := by
          rw [beq_eq_false_iff_ne]; intro e; exact hb (UInt8.toNat_inj.1 (by omega))
        clear hs2 hb
        go_wp2
        go_roundw
        case rel => exact ⟨hEr, k + 1, by omega, by go_num, by rw [Hs2.out, HBe.out], by rw [Hs2.out]; exact hO⟩
        case measure => simp [intOf]; omega
    · obtain rfl : k = s.size := by omega
      go_wp2_with (first | ((with_reducible refine q_bsS (d := some 32) (n := s.extract B s.size) ?_ ?_); rfl; intro W24 g24 hE24 hB24 hg24; replace hEr := hEr.trans hE24; replace hO := hO.ext hE24) | (refine q_appS (d := some 33) rfl hO rfl hB24 (by have := Hl1.out; omega) (by have := hEr.size; omega) ?_; intro v25 W25 hO' hmono hgr; replace hEr := hmono _ hEr))
      go_ret
      exact ⟨_, rfl, by unfold split; rw [HBe.out]; exact hO', hEr⟩
end Go.Bp
end
section
set_option maxRecDepth 100000
set_option linter.unusedSimpArgs false
set_option linter.unusedVariables false
namespace Go.Bp
open Go.RowKit Go.Proofs
set_option maxHeartbeats 2000000 in
theorem Rnumber_any (s : ByteArray) (w : World) (hs : s.size ≤ 100000) :
    Calls Tryz.prog 119 #[.string s] w fun e w' => e = .returned (.int .i64 (numOf s)) ∧ w = w' := by
  by_cases hz : inB s.size 1 3 = true
  · have hz2 := inB_t.1 hz
    have Hz := Lib.hid hz
    go_enter Tryz.func119, Tryz.ntmps119
    go_wp2_with (go_at_call 56; refine (in_any _ _ _ _).mono ?_; rintro e w' ⟨rfl, rfl⟩)
    go_loop [3, 4] (fun n i => ∃ k : Nat, k ≤ s.size ∧ i = .int .i64 k ∧ n = .int .i64 (numTo s k) ∧ ∀ b ∈ s.data.toList.take k, isDig b = true) (fun _ i => s.size - (intOf i).toNat)
    case atStart => exact ⟨0, by omega, rfl, rfl, by simp⟩
    case round =>
      obtain ⟨k, hk, rfl, rfl, hd⟩ := hrel
      have hbd := numTo_bd k hk hd
      have hp : (10 : Int) ^ k ≤ 10 ^ 3 := by
        have : (10 : Nat) ^ k ≤ 10 ^ 3 := Nat.pow_le_pow_right (by decide) (by omega)
        exact_mod_cast this
      have hb2 : numTo s k < 1000 := by have : (10 : Int) ^ 3 = 1000 := rfl; omega
      have hb1 := hbd.1
      have Hd := Lib.hid hd
      clear hd hbd hp
      by_cases hlt : k < s.size
      · by_cases hg : isDig s[k] = true
        · have Hg := Lib.hid hg
          have hg2 := inB_t.1 hg
          obtain ⟨hg3, hg4⟩ := hg2
          have hn := numTo_succ hlt
          have Hn := Lib.hid hn
          have q1 : inB (s[k].toNat : Int) 48 57 = true := hg
          clear hn hg
          go_wp2_with (go_at_call 56; refine (in_any _ _ _ _).mono ?_; rintro e w' ⟨rfl, rfl⟩)
          go_round
          case rel => exact ⟨k + 1, by omega, by go_num, by rw [Hn.out], all_take_snoc (l := s.data.toList) (p := fun b => isDig b = true) hlt Hd.out Hg.out⟩
          case measure => simp [intOf]; omega
        · simp only [Bool.not_eq_true] at hg
          have q1 : inB (s[k].toNat : Int) 48 57 = false := hg
          have Hr := Lib.hid (numOf_bad2 (s := s) (b := s[k]) (List.getElem_mem (show k < s.data.toList.length from hlt)) hg)
          have h255 : (s[k].toNat : Int) ≤ 255 := by have := s[k].toNat_lt; omega
          clear hg
          go_wp2_with (go_at_call 56; refine (in_any _ _ _ _).mono ?_; rintro e w' ⟨rfl, rfl⟩)
          go_ret
          exact ⟨ret_i Hr.out.symm, rfl⟩
      · obtain rfl : k = s.size := by omega
        have Hr := Lib.hid (numOf_ok Hz.out (fun b hb => Hd.out b (by rw [show s.data.toList.take s.size = s.data.toList from List.take_of_length_le (Nat.le_refl _)]; exact hb)))
        go_wp2
        go_ret
        exact ⟨ret_i Hr.out.symm, rfl⟩
  · simp only [Bool.not_eq_true] at hz
    have Hr := Lib.hid (numOf_bad1 hz)
    go_enter Tryz.func119, Tryz.ntmps119
    go_wp2_with (go_at_call 56; refine (in_any _ _ _ _).mono ?_; rintro e w' ⟨rfl, rfl⟩)
    go_ret
    exact ⟨ret_i Hr.out.symm, rfl⟩
end Go.Bp
end
section
set_option maxRecDepth 100000
set_option linter.unusedSimpArgs false
set_option linter.unusedVariables false
namespace Go.Bp
open Go.RowKit Go.Proofs
theorem Split10_any (s : ByteArray) (w : World) (hs : s.size ≤ 100000) : Calls Tryz.prog 118 #[.string s, .int .u8 10] w (Ret w fun v w' => OwnS w.heap.size w' v (split s 10)) := Split_any s 10 w hs
theorem Split32_any (s : ByteArray) (w : World) (hs : s.size ≤ 100000) : Calls Tryz.prog 118 #[.string s, .int .u8 32] w (Ret w fun v w' => OwnS w.heap.size w' v (split s 32)) := Split_any s 32 w hs
theorem ld_line {w : World} {g : Nat} {a b c : Int} (h : Blk w g 99 #[.int .i64 a, .int .i64 b, .int .i64 c]) : (loadVar 99 ⟨g, 0, none⟩).run Tryz.prog w = .ok (.agg #[.int .i64 a, .int .i64 b, .int .i64 c]) w := by
  obtain ⟨i, hi, hs⟩ := info99
  exact load_struct (cs := [.int .i64 a, .int .i64 b, .int .i64 c]) Tryz.underlying99 hi (by rw [hs]; rfl) (by simpa using h.cells)
set_option maxHeartbeats 6000000 in
theorem Rparsed_any (cv : Value) (c : Code) (text : ByteArray) (w : World) (h : CodeV w cv c) (ho : c.Ok) (ht : text.size ≤ 600) :
    Calls Tryz.prog 95 #[cv, .string text] w fun e w' => ∃ kv, e = .returned (.agg #[.int .i64 (parsedOf c text).lines, kv]) ∧ OwnL w.heap.size w' kv (parsedOf c text).kept ∧ Ext w w' := by
  obtain ⟨fv, mv, rfl, hF, hM, hW⟩ := h
  have hE := Ext.refl w
  have HW := Lib.hid hW
  have hcb : c.faults.length ≤ 1000000 ∧ c.man.length ≤ 1000000 := ⟨by have := ho.nf2; omega, by have := ho.nm; omega⟩
  have Hcb := Lib.hid hcb
  have ht9 := ho.thing9
  have ht1 := ho.thing1
  clear hW hcb ho
  go_enter Tryz.func95, Tryz.ntmps95
  go_wp2_with (first | (((with_reducible refine q_alloc (d := some 4) ti39 ?_); intro W4 g4 hE4 hB4 hg4; have hg40 : w.heap.size ≤ g4 := Nat.le_trans hE.size hg4; replace hE := hE.trans hE4; replace hF := hF.ext hE4; replace hM := hM.ext hE4; replace hB2 := hB2.ext hE4; replace hb2_0 := Ext.cell_some hE4 hb2_0; replace hb2_1 := Ext.cell_some hE4 hb2_1; replace hb2_2 := Ext.cell_some hE4 hb2_2)) | ((with_reducible refine q_box (d := some 2) ?_); intro W2 g2 hE2 hB2 hg2; simp [Act.eval, Act.put, Value.cells] at hB2; (try replace hE := hE.trans hE2); (try replace hF := hF.ext hE2); (try replace hM := hM.ext hE2); (try replace hB4 := hB4.ext hE2); (try replace hO118 := hO118.ext hE2); (try replace hO57 := hO57.ext hE2); (try replace hB2 := hB2.ext hE2); (try replace hb2_0 := Ext.cell_some hE2 hb2_0); (try replace hb2_1 := Ext.cell_some hE2 hb2_1); (try replace hb2_2 := Ext.cell_some hE2 hb2_2); have hb2_0 := hB2.cell 0; have hb2_1 := hB2.cell 1; have hb2_2 := hB2.cell 2; simp at hb2_0 hb2_1 hb2_2; clear hE2))
  go_region_held3 (fun w' => w'.cell? ⟨g2, 0, none⟩ = some (fv) ∧ w'.cell? ⟨g2, 1, none⟩ = some (mv) ∧ w'.cell? ⟨g2, 2, none⟩ = some (.int .i64 c.all)) (simp [*]) ((first | (go_at_call 118; ((with_reducible refine (Split10_any text _ (by omega)).mono ?_); rintro e WcS ⟨v118, rfl, hO118, hEcS⟩; (try replace hEcS := Ext.undrew hEcS); (try replace hE := hE.trans hEcS); (try replace hF := hF.ext hEcS); (try replace hM := hM.ext hEcS); (try replace hB4 := hB4.ext hEcS); (try replace hO118 := hO118.ext hEcS); (try replace hO57 := hO57.ext hEcS); (try replace hB2 := hB2.ext hEcS); (try replace hb2_0 := Ext.cell_some hEcS hb2_0); (try replace hb2_1 := Ext.cell_some hEcS hb2_1); (try replace hb2_2 := Ext.cell_some hEcS hb2_2))) | (go_at_call 57; ((with_reducible refine (Names_any _ c _ (by first | exact CodeV.of hF hM HW.out | exact (CodeV.of hF hM HW.out).d) Hcb.out).mono ?_); rintro e WcN ⟨v57, rfl, hO57, hEcN⟩; (try replace hEcN := Ext.undrew hEcN); (try replace hE := hE.trans hEcN); (try replace hF := hF.ext hEcN); (try replace hM := hM.ext hEcN); (try replace hB4 := hB4.ext hEcN); (try replace hO118 := hO118.ext hEcN); (try replace hO57 := hO57.ext hEcN); (try replace hB2 := hB2.ext hEcN); (try replace hb2_0 := Ext.cell_some hEcN hb2_0); (try replace hb2_1 := Ext.cell_some hEcN hb2_1); (try replace hb2_2 := Ext.cell_some hEcN hb2_2)))))
  obtain ⟨rows, hrows⟩ : ∃ rows, split text 10 = rows := ⟨_, rfl⟩
  have hrl := split_len text 10
  have hrs := split_size (s := text) (b := 10)
  rw [hrows] at hO118 hrl hrs
  have Hpar := Lib.hid (show parsedOf c text = ⟨numOf (rows.getD 0 ByteArray.empty), rowsOf c rows (rows.length - 2)⟩ by unfold parsedOf; rw [hrows])
  have Hrsz := Lib.hid hrs
  obtain ⟨hrl1, hrl2⟩ := hrl
  clear hrows hrs
  have hnl := c.names_len
  obtain ⟨ns, hns⟩ : ∃ ns, c.names = ns := ⟨_, rfl⟩
  rw [hns] at hO57 hnl
  have Hns := Lib.hid hns
  obtain ⟨A1, c1, rfl, a1, a2, a3, a4⟩ := hO118.strs
  obtain ⟨A2, c2, rfl, b1, b2, b3, b4⟩ := hO57.strs
  unfold maxLen at a2 b2
  obtain ⟨ad1, rfl, hr1⟩ := a4 (by omega)
  obtain ⟨ad2, rfl, hr2⟩ := b4 (by omega)
  have h0r : 0 < rows.length := hrl1
  clear a3 a4 b3 b4 hns
  have er0 := hr1.s (k := 0) h0r
  rw [add_zero'] at er0
  have hr0 : rows.getD 0 ByteArray.empty = rows[0] := getD_eq h0r
  have Hr0 := Lib.hid hr0
  have Hs0 := Hrsz.out _ (List.getElem_mem h0r)
  clear hr0
  go_wp2_with (first | (go_at_call 119; refine (Rnumber_any _ _ (by omega)).mono ?_; rintro e w' ⟨rfl, rfl⟩) | ((with_reducible refine q_newvar (e := 39) (u := 7) (v := .agg #[.int .i64 (numOf rows[0]), .slice none 0 0]) ti39 ?_ ?_ ?_ ?_ ?_ ?_); (intro g; rfl); (intro g; rfl); rfl; rfl; (simp [Value.cells, Value.oneCell']); intro W7 g7 hE7 hB7 hg7; simp [Value.cells] at hB7))
  obtain ⟨W8, hW8⟩ : ∃ W, W = WcN := ⟨_, rfl⟩
  subst hW8
  go_loopw [8] (fun i wr => Ext W8 wr ∧ ∃ k : Nat, ∃ kv : Value, k ≤ rows.length - 2 ∧ i = .int .i64 ((k : Int) + 1) ∧ Blk wr g7 39 #[.int .i64 (numOf rows[0]), kv] ∧ OwnL W8.heap.size wr kv (rowsOf c rows k)) (fun i _ => rows.length - (intOf i).toNat)
  case atStart => exact ⟨hE7, 0, _, by omega, rfl, hB7, by rw [show rowsOf c rows 0 = [] by simp [rowsOf]]; exact OwnL.nil _ _⟩
  case round =>
    obtain ⟨hEr, k, kv, hk, rfl, hB7r, hO⟩ := hrel
    have Hkl : Hid ((rowsOf c rows k).length ≤ 1000) := by unfold rowsOf; show (List.map _ _).length ≤ 1000; rw [List.length_map, List.length_take]; omega
    obtain ⟨Ak, ck, rfl, _, _, _⟩ := hO.lines
    have hR := hr1.ext hEr
    have hN := hr2.ext hEr
    by_cases hlt : k + 1 + 1 < rows.length
    · have hk1 : k + 1 < rows.length := by omega
      have Hrs := Lib.hid (rowsOf_succ c rows hk1)
      have e1 := hR.s hk1
      simp [Addr.add] at e1
      have hrz := Hrsz.out _ (List.getElem_mem hk1)
      obtain ⟨ww, hww⟩ : ∃ ww, split rows[k + 1] 32 = ww := ⟨_, rfl⟩
      have hwl := split_len rows[k + 1] 32
      have hwz := split_size (s := rows[k + 1]) (b := 32)
      rw [hww] at hwl hwz
      have Hww := Lib.hid hww
      have Hwz := Lib.hid hwz
      obtain ⟨hwl1, hwl2⟩ := hwl
      clear hww hwz hR
      go_wp2_with (first | (go_at_call 118; ((with_reducible refine (Split32_any _ _ (by omega)).mono ?_); rintro e W32 ⟨v32, rfl, hO32, hE32⟩; rw [Hww.out] at hO32; replace hEr := hEr.trans hE32; replace hO := hO.ext hE32; replace hB7r := hB7r.ext hE32; replace hN := hN.ext hE32; obtain ⟨A9, c9, rfl, w1, w2, w3, w4⟩ := hO32.strs; obtain ⟨ad9, rfl, hw9⟩ := w4 hwl1; clear w3 w4; unfold maxLen at w2; have f0 := hw9.s hwl1; rw [add_zero'] at f0; have Hz0 := Lib.hid (Hwz.out _ (List.getElem_mem hwl1)))) | (go_at_call 119; refine (Rnumber_any _ _ (by have := Hz0.out; omega)).mono ?_; rintro e w' ⟨rfl, rfl⟩) | ((with_reducible refine q_newvar (e := 99) (u := 10) (v := .agg #[.int .i64 (numOf ww[0]), .int .i64 (-1), .int .i64 0]) ti99 ?_ ?_ ?_ ?_ ?_ ?_); (intro g; rfl); (intro g; rfl); rfl; rfl; (simp [Value.cells, Value.oneCell']); intro W10 g10 hE10 hB10 hg10; simp [Value.cells] at hB10))
      have Hn0 := Lib.hid (show ww.getD 0 ByteArray.empty = ww[0] from getD_eq hwl1)
      by_cases h3 : ww.length = 3
      · have hw1 : 1 < ww.length := by omega
        have hw2 : 2 < ww.length := by omega
        have f1 := hw9.s hw1
        have f2 := hw9.s hw2
        simp [Addr.add] at f1 f2
        have q3 : ((ww.length : Int) == 3) = true := by simp [h3]
        have H3 := Lib.hid h3
        have Hz2 := Lib.hid (Hwz.out _ (List.getElem_mem hw2))
        have g1 := Lib.hid (show ww.getD 1 ByteArray.empty = ww[1] from getD_eq hw1)
        have g2' := Lib.hid (show ww.getD 2 ByteArray.empty = ww[2] from getD_eq hw2)
        clear h3
        go_loopw [11] (fun i wr2 => Ext W32 wr2 ∧ ∃ (j : Nat) (a b : Int), j ≤ c.things ∧ i = .int .i64 j ∧ Blk wr2 g10 99 #[.int .i64 (numOf ww[0]), .int .i64 a, .int .i64 b] ∧ findTo ns ww j = (a, b)) (fun i _ => c.things - (intOf i).toNat)
        case atStart => exact ⟨hE10, 0, -1, 0, by omega, rfl, hB10, rfl⟩
        case round =>
          obtain ⟨hEs, j, a, b, hj, rfl, hBi, hfi⟩ := hrel
          have Hfi := Lib.hid hfi
          clear hfi hB10 hE10
          by_cases hjt : j < c.things
          · have hjn : j < ns.length := by omega
            have e2 := (hN.ext hEs).s hjn
            have f1' := Ext.cell_some hEs f1
            have f2' := Ext.cell_some hEs f2
            have gj := Lib.hid (show ns.getD j ByteArray.empty = ns[j] from getD_eq hjn)
            clear hN f1 f2 f0
            by_cases he : ns[j] = ww[1]
            · have hbe : (ns[j].toList == ww[1].toList) = true := by rw [ba_tl]; simp [he]
              have Hf := Lib.hid (findTo_hit (names := ns) (w := ww) (k := j) (by rw [gj.out, g1.out, he]))
              rw [g2'.out] at Hf
              clear he
              go_wp2
              refine wp_region_quiet_lit (by kernel_rfl) (by kernel_rfl) ?_
              repeat (any_goals (first | go_big_quiet_step (fail) | quiet_step (fail)))
              refine wpQuiet_nil ?_
              intro _ hw'
              obtain ⟨nq, hw''⟩ := hw'
              subst hw''
              have f2q := Ext.cell_some ((Ext.refl _).drewN nq) f2'
              have hBq := hBi.ext ((Ext.refl _).drewN nq)
              go_wp2_with (first | (go_at_call 119; refine (Rnumber_any _ _ (by have := Hz2.out; omega)).mono ?_; rintro e w' ⟨rfl, rfl⟩) | ((with_reducible refine q_store1 (t := 3) (e := 99) (g := g10) (off := 1) (v := .int .i64 (j : Int)) ?_ ?_ hBq size3 ?_ ?_ ?_ ?_); rfl; rfl; rfl; simp; rfl; intro Wa hBa hgra; simp at hBa; have hEa := below_grown (hEs.drewN nq) hgra hg10 (hEs.drewN nq).size) | ((with_reducible refine q_store1 (t := 3) (e := 99) (g := g10) (off := 2) (v := .int .i64 (numOf ww[2])) ?_ ?_ hBa size3 ?_ ?_ ?_ ?_); rfl; rfl; rfl; simp; rfl; intro Wb hBb hgrb; simp at hBb; have hEb := below_grown hEa hgrb hg10 hEa.size))
              go_roundw
              case rel => exact ⟨hEb, j + 1, _, _, by omega, by go_num, hBb, Hf.out⟩
              case measure => simp [intOf]; omega
            · have hbe : (ns[j].toList == ww[1].toList) = false := by rw [ba_tl]; simp [he]
              have Hf := Lib.hid (findTo_miss (names := ns) (w := ww) (k := j) (by rw [gj.out, g1.out]; exact he))
              clear he
              go_wp2
              refine wp_region_quiet_lit (by kernel_rfl) (by kernel_rfl) ?_
              repeat (any_goals (first | go_big_quiet_step (fail) | quiet_step (fail)))
              refine wpQuiet_nil ?_
              intro _ hw'
              obtain ⟨nq, hw''⟩ := hw'
              subst hw''
              go_wp2
              go_roundw
              case rel => exact ⟨hEs.drewN _, j + 1, _, _, by omega, by go_num, hBi, by rw [Hf.out]; exact Hfi.out⟩
              case measure => simp [intOf]; omega
          · obtain rfl : j = c.things := by omega
            have Hln := Lib.hid (show lineOf c rows[k + 1] = ⟨numOf ww[0], a, b⟩ by
              rw [lineOf_3 (by rw [Hww.out]; exact H3.out), Hww.out, Hns.out, Hn0.out, hnl, Hfi.out])
            replace hEr := hEr.trans hEs
            replace hO := hO.ext hEs
            replace hB7r := hB7r.ext hEs
            have f71 := hB7r.cell 1
            simp at f71
            clear hN f1 f2 f0
            go_wp2_with (first | ((with_reducible refine q_load (d := some 65) (p := ⟨g7, 1, none⟩) (v := .slice Ak (rowsOf c rows k).length ck) ?_ ?_ ?_); rfl; exact load_one Tryz.underlying37 rfl f71) | ((with_reducible refine q_load (d := some 66) (p := ⟨g10, 0, none⟩) (v := .agg #[.int .i64 (numOf ww[0]), .int .i64 a, .int .i64 b]) ?_ ?_ ?_); rfl; exact ld_line hBi) | ((with_reducible refine q_bsL (d := some 67) (p := (numOf ww[0])) (q := a) (r := b) ?_ ?_); rfl; intro W67 g67 hE67 hB67 hg67; replace hEr := hEr.trans hE67; replace hO := hO.ext hE67; replace hB7r := hB7r.ext hE67) | ((with_reducible refine q_appL (d := some 68) (y := ⟨(numOf ww[0]), a, b⟩) ?_ hO ?_ hB67 ?_ ?_ ?_); rfl; rfl; (have := Hkl.out; omega); (have := hEr.size; omega); intro v68 W68 hO68 hm68 hgr68; replace hEr := hm68 _ hEr; replace hB7r := hB7r.grown hgr68 (Blk.notown hB7r hO (.inl (by decide))); obtain ⟨A68, c68, e68, _, _, _⟩ := hO68.lines; have E68 := Lib.hid e68; clear e68) | ((with_reducible refine q_store1 (t := 37) (e := 39) (g := g7) (off := 1) (v := v68) ?_ ?_ hB7r size37 ?_ ?_ ?_ ?_); rfl; rfl; (rw [E68.out]; rfl); simp; (rw [E68.out]; rfl); intro Ws hBs hgrs; simp at hBs; have hEv := below_grown hEr hgrs hg7 hEr.size; have hOv := own_grown hO68 hgrs (own_ne hO68 hB7r (.inl (by decide)))))
            go_roundw
            case rel => exact ⟨hEv, k + 1, _, by omega, by go_num, by simpa using hBs, by rw [Hrs.out, Hln.out]; exact hOv⟩
            case measure => simp [intOf]; omega
      · have q3 : ((ww.length : Int) == 3) = false := by simp; omega
        have Hln := Lib.hid (show lineOf c rows[k + 1] = ⟨numOf ww[0], -1, 0⟩ by
          rw [lineOf_n (by rw [Hww.out]; exact h3), Hww.out, Hn0.out])
        clear h3
        go_loopw [11] (fun i wr2 => Ext W32 wr2 ∧ i = .int .i64 0 ∧ Blk wr2 g10 99 #[.int .i64 (numOf ww[0]), .int .i64 (-1), .int .i64 0]) (fun i _ => 0)
        case atStart => exact ⟨hE10, rfl, hB10⟩
        case round =>
          obtain ⟨hEs, rfl, hBi⟩ := hrel
          replace hEr := hEr.trans hEs
          replace hO := hO.ext hEs
          replace hB7r := hB7r.ext hEs
          have f71 := hB7r.cell 1
          simp at f71
          clear hN f0 hB10 hE10
          go_wp2_with (first | ((with_reducible refine q_load (d := some 65) (p := ⟨g7, 1, none⟩) (v := .slice Ak (rowsOf c rows k).length ck) ?_ ?_ ?_); rfl; exact load_one Tryz.underlying37 rfl f71) | ((with_reducible refine q_load (d := some 66) (p := ⟨g10, 0, none⟩) (v := .agg #[.int .i64 (numOf ww[0]), .int .i64 (-1), .int .i64 0]) ?_ ?_ ?_); rfl; exact ld_line hBi) | ((with_reducible refine q_bsL (d := some 67) (p := (numOf ww[0])) (q := (-1)) (r := 0) ?_ ?_); rfl; intro W67 g67 hE67 hB67 hg67; replace hEr := hEr.trans hE67; replace hO := hO.ext hE67; replace hB7r := hB7r.ext hE67) | ((with_reducible refine q_appL (d := some 68) (y := ⟨(numOf ww[0]), (-1), 0⟩) ?_ hO ?_ hB67 ?_ ?_ ?_); rfl; rfl; (have := Hkl.out; omega); (have := hEr.size; omega); intro v68 W68 hO68 hm68 hgr68; replace hEr := hm68 _ hEr; replace hB7r := hB7r.grown hgr68 (Blk.notown hB7r hO (.inl (by decide))); obtain ⟨A68, c68, e68, _, _, _⟩ := hO68.lines; have E68 := Lib.hid e68; clear e68) | ((with_reducible refine q_store1 (t := 37) (e := 39) (g := g7) (off := 1) (v := v68) ?_ ?_ hB7r size37 ?_ ?_ ?_ ?_); rfl; rfl; (rw [E68.out]; rfl); simp; (rw [E68.out]; rfl); intro Ws hBs hgrs; simp at hBs; have hEv := below_grown hEr hgrs hg7 hEr.size; have hOv := own_grown hO68 hgrs (own_ne hO68 hB7r (.inl (by decide)))))
          go_roundw
          case rel => exact ⟨hEv, k + 1, _, by omega, by go_num, by simpa using hBs, by rw [Hrs.out, Hln.out]; exact hOv⟩
          case measure => simp [intOf]; omega
    · have hkk : k = rows.length - 2 := by omega
      have Hkk := Lib.hid hkk
      have hB4r := hB4.ext hEr
      have hEw := hE.trans hEr
      clear hkk
      go_wp2_with (first | ((with_reducible refine q_load (d := some 70) (p := ⟨g7, 0, none⟩) (v := .agg #[.int .i64 (numOf rows[0]), .slice Ak (rowsOf c rows k).length ck]) ?_ ?_ ?_); rfl; exact ld_sheet hB7r) | ((with_reducible refine q_store (t := 39) (e := 39) (g := g4) (off := 0) (n := 2) (v := .agg #[.int .i64 (numOf rows[0]), .slice Ak (rowsOf c rows k).length ck]) ?_ ?_ hB4r size39 ?_ ?_ ?_ ?_); rfl; rfl; rfl; (simp [Value.cells]); (simp [Value.cells, Value.oneCell']); intro W60 hB60 hgr60; simp [putAt, Value.cells] at hB60; replace hEw := below_grown hEw hgr60 hg40 hEw.size; have hO60 := own_grown hO hgr60 (own_ne hO hB4r (.inl (by decide)))))
      refine ret_c1 rfl rfl rfl (ld_sheet hB60) ?_
      exact ⟨.slice Ak (rowsOf c rows k).length ck, by rw [Hpar.out, Hr0.out], by rw [Hpar.out, ← Hkk.out]; exact OwnL.base hO60 hE.size, hEw⟩
end Go.Bp
end
section
set_option maxRecDepth 100000
set_option linter.unusedSimpArgs false
set_option linter.unusedVariables false
namespace Go.Bp
open Go.RowKit Go.Proofs
theorem read_e {c : Code} {t : ByteArray} (h : readErr c t ≠ 0) : readAns c t = (⟨0, []⟩, readErr c t) := by unfold readAns; rw [if_pos h]
theorem readErr_c {c : Code} {t : ByteArray} (h : c.check.2.2 ≠ 0) : readErr c t = c.check.2.2 := by unfold readErr; rw [if_pos h]
theorem readErr_3 {c : Code} {t : ByteArray} (h : c.check.2.2 = 0) (h2 : ¬ t.size ≤ 600) : readErr c t = 3 := by unfold readErr; rw [if_neg (by simp [h]), if_neg h2]
theorem readErr_0 {c : Code} {t : ByteArray} (h : c.check.2.2 = 0) (h2 : t.size ≤ 600) : readErr c t = 0 := by unfold readErr; rw [if_neg (by simp [h]), if_pos h2]
theorem read_6 {c : Code} {t : ByteArray} (h : readErr c t = 0) (h2 : ¬ ((parsedOf c t).err c = 0 ∧ S (textOf c (parsedOf c t)) = t)) : readAns c t = (⟨0, []⟩, 6) := by unfold readAns; rw [if_neg (by simp [h]), if_neg h2]
theorem read_0 {c : Code} {t : ByteArray} (h : readErr c t = 0) (h2 : (parsedOf c t).err c = 0) (h3 : S (textOf c (parsedOf c t)) = t) : readAns c t = (parsedOf c t, 0) := by unfold readAns; rw [if_neg (by simp [h]), if_pos ⟨h2, h3⟩]
set_option maxHeartbeats 4000000 in
theorem RRead_any (cv : Value) (c : Code) (text : ByteArray) (w : World) (h : CodeV w cv c) (hsz : text.size ≤ maxLen) :
    Calls Tryz.prog 41 #[cv, .string text] w (RetSI w (readAns c text).1 (readAns c text).2) := by
  obtain ⟨fv, mv, rfl, hF, hM, hW⟩ := h
  have hE := Ext.refl w
  have HW := Lib.hid hW
  unfold maxLen at hsz
  clear hW
  by_cases ha : c.check.2.2 = 0
  · have q1 : (c.check.2.2 == 0) = true := by simp [ha]
    by_cases h6 : text.size ≤ 600
    · have q2 : (c.check.2.2 != 0) = false := by simp [ha]
      have Ho := Lib.hid (Code.ok_of_check ha)
      have H6 := Lib.hid h6
      have hr0 := readErr_0 ha h6
      by_cases he : (parsedOf c text).err c = 0
      · have Hs := Lib.hid (Sheet.ok_of_err he)
        have q3 : ((parsedOf c text).err c != 0) = false := by simp [he]
        by_cases ht : S (textOf c (parsedOf c text)) = text
        · have q4 : ((S (textOf c (parsedOf c text))).toList == text.toList) = true := by rw [ba_tl]; simp [ht]
          have q5 : ((S (textOf c (parsedOf c text))).toList != text.toList) = false := by rw [bne, q4]; rfl
          have Hr := Lib.hid (read_0 hr0 he ht)
          clear ha he ht hr0
          rw [Hr.out]
          go_enter Tryz.func41, Tryz.ntmps41
          go_wp2_with (first | (((with_reducible refine q_alloc (d := some 4) ti39 ?_); intro W4 g4 hE4 hB4 hg4; have hg40 : w.heap.size ≤ g4 := Nat.le_trans hE.size hg4; replace hE := hE.trans hE4; replace hF := hF.ext hE4; replace hM := hM.ext hE4; replace hB2 := hB2.ext hE4; replace hb2_0 := Ext.cell_some hE4 hb2_0; replace hb2_1 := Ext.cell_some hE4 hb2_1; replace hb2_2 := Ext.cell_some hE4 hb2_2)) | (go_at_call 18; ((with_reducible refine (RCheck_any _ c _ (by exact CodeV.of hF hM HW.out)).mono ?_); rintro e Wc1 ⟨rfl, hEc1⟩; (try replace hEc1 := Ext.undrew hEc1); (try replace hE := hE.trans hEc1); (try replace hF := hF.ext hEc1); (try replace hM := hM.ext hEc1); (try replace hB4 := hB4.ext hEc1); (try replace hK := hK.ext hEc1); (try replace hB9 := hB9.ext hEc1); (try replace hO95 := hO95.ext hEc1); (try replace hB2 := hB2.ext hEc1); (try replace hb9_0 := Ext.cell_some hEc1 hb9_0); (try replace hb9_1 := Ext.cell_some hEc1 hb9_1); (try replace hb2_0 := Ext.cell_some hEc1 hb2_0); (try replace hb2_1 := Ext.cell_some hEc1 hb2_1); (try replace hb2_2 := Ext.cell_some hEc1 hb2_2))) | (go_at_call 95; ((with_reducible refine (Rparsed_any _ c text _ (by exact CodeV.of hF hM HW.out) Ho.out H6.out).mono ?_); rintro e Wc2 ⟨kv, rfl, hO95, hEc2⟩; (try replace hEc2 := Ext.undrew hEc2); (try replace hE := hE.trans hEc2); (try replace hF := hF.ext hEc2); (try replace hM := hM.ext hEc2); (try replace hB4 := hB4.ext hEc2); (try replace hK := hK.ext hEc2); (try replace hB9 := hB9.ext hEc2); (try replace hO95 := hO95.ext hEc2); (try replace hB2 := hB2.ext hEc2); (try replace hb9_0 := Ext.cell_some hEc2 hb9_0); (try replace hb9_1 := Ext.cell_some hEc2 hb9_1); (try replace hb2_0 := Ext.cell_some hEc2 hb2_0); (try replace hb2_1 := Ext.cell_some hEc2 hb2_1); (try replace hb2_2 := Ext.cell_some hEc2 hb2_2); have hK := OwnL.lines hO95)) | (((with_reducible refine q_newvar (e := 39) (u := 9) (v := .agg #[.int .i64 (parsedOf c text).lines, kv]) ti39 ?_ ?_ ?_ ?_ ?_ ?_); (intro g; rfl); (intro g; rfl); rfl; rfl; (obtain ⟨_, _, ek, _⟩ := hK; rw [ek]; simp [Value.cells, Value.oneCell']); intro W9 g9 hE9 hB9 hg9; simp [Value.cells] at hB9; have hb9_0 := hB9.cell 0; have hb9_1 := hB9.cell 1; simp at hb9_0 hb9_1; replace hE := hE.trans hE9; replace hF := hF.ext hE9; replace hM := hM.ext hE9; replace hK := hK.ext hE9; replace hO95 := hO95.ext hE9; replace hB4 := hB4.ext hE9; replace hB2 := hB2.ext hE9; replace hb2_0 := Ext.cell_some hE9 hb2_0; replace hb2_1 := Ext.cell_some hE9 hb2_1; replace hb2_2 := Ext.cell_some hE9 hb2_2)) | (go_at_call 96; ((with_reducible refine (RSheet_any _ _ c (parsedOf c text) _ (by exact CodeV.of hF hM HW.out) (by exact SheetV.of hK) Ho.out).mono ?_); rintro e Wc3 ⟨rfl, hEc3⟩; (try replace hEc3 := Ext.undrew hEc3); (try replace hE := hE.trans hEc3); (try replace hF := hF.ext hEc3); (try replace hM := hM.ext hEc3); (try replace hB4 := hB4.ext hEc3); (try replace hK := hK.ext hEc3); (try replace hB9 := hB9.ext hEc3); (try replace hO95 := hO95.ext hEc3); (try replace hB2 := hB2.ext hEc3); (try replace hb9_0 := Ext.cell_some hEc3 hb9_0); (try replace hb9_1 := Ext.cell_some hEc3 hb9_1); (try replace hb2_0 := Ext.cell_some hEc3 hb2_0); (try replace hb2_1 := Ext.cell_some hEc3 hb2_1); (try replace hb2_2 := Ext.cell_some hEc3 hb2_2))) | (go_at_call 87; ((with_reducible refine (RText_any _ _ c (parsedOf c text) _ (by exact CodeV.of hF hM HW.out) (by exact SheetV.of hK) Ho.out Hs.out).mono ?_); rintro e Wc4 ⟨rfl, hEc4⟩; (try replace hEc4 := Ext.undrew hEc4); (try replace hE := hE.trans hEc4); (try replace hF := hF.ext hEc4); (try replace hM := hM.ext hEc4); (try replace hB4 := hB4.ext hEc4); (try replace hK := hK.ext hEc4); (try replace hB9 := hB9.ext hEc4); (try replace hO95 := hO95.ext hEc4); (try replace hB2 := hB2.ext hEc4); (try replace hb9_0 := Ext.cell_some hEc4 hb9_0); (try replace hb9_1 := Ext.cell_some hEc4 hb9_1); (try replace hb2_0 := Ext.cell_some hEc4 hb2_0); (try replace hb2_1 := Ext.cell_some hEc4 hb2_1); (try replace hb2_2 := Ext.cell_some hEc4 hb2_2))) | (((with_reducible refine q_store (t := 39) (e := 39) (g := g4) (off := 0) (n := 2) (v := .agg #[.int .i64 (parsedOf c text).lines, kv]) ?_ ?_ hB4 size39 ?_ ?_ ?_ ?_); rfl; rfl; rfl; (simp [Value.cells]); (obtain ⟨_, _, ek, _⟩ := hK; rw [ek]; simp [Value.cells, Value.oneCell']); intro W60 hB60 hgr60; simp [putAt, Value.cells] at hB60; have hK60 := OwnL.lines (own_grown hO95 hgr60 (own_ne hO95 hB4 (.inl (by decide)))); replace hE := below_grown hE hgr60 hg40 hE.size)) | ((with_reducible refine q_box (d := some 2) ?_); intro W2 g2 hE2 hB2 hg2; simp [Act.eval, Act.put, Value.cells] at hB2; (try replace hE := hE.trans hE2); (try replace hF := hF.ext hE2); (try replace hM := hM.ext hE2); (try replace hB4 := hB4.ext hE2); (try replace hK := hK.ext hE2); (try replace hB9 := hB9.ext hE2); (try replace hO95 := hO95.ext hE2); (try replace hB2 := hB2.ext hE2); (try replace hb9_0 := Ext.cell_some hE2 hb9_0); (try replace hb9_1 := Ext.cell_some hE2 hb9_1); (try replace hb2_0 := Ext.cell_some hE2 hb2_0); (try replace hb2_1 := Ext.cell_some hE2 hb2_1); (try replace hb2_2 := Ext.cell_some hE2 hb2_2); have hb2_0 := hB2.cell 0; have hb2_1 := hB2.cell 1; have hb2_2 := hB2.cell 2; simp at hb2_0 hb2_1 hb2_2; clear hE2))
          refine ret_c2 rfl rfl rfl (ld_sheet hB60) ?_
          exact ⟨_, rfl, SheetV.of hK60, hE⟩
        · have q4 : ((S (textOf c (parsedOf c text))).toList == text.toList) = false := by rw [ba_tl]; simp [ht]
          have q5 : ((S (textOf c (parsedOf c text))).toList != text.toList) = true := by rw [bne, q4]; rfl
          have Hr := Lib.hid (read_6 hr0 (fun h => ht h.2))
          clear ha he ht hr0
          rw [Hr.out]
          go_enter Tryz.func41, Tryz.ntmps41
          go_wp2_with (first | (((with_reducible refine q_alloc (d := some 4) ti39 ?_); intro W4 g4 hE4 hB4 hg4; have hg40 : w.heap.size ≤ g4 := Nat.le_trans hE.size hg4; replace hE := hE.trans hE4; replace hF := hF.ext hE4; replace hM := hM.ext hE4; replace hB2 := hB2.ext hE4; replace hb2_0 := Ext.cell_some hE4 hb2_0; replace hb2_1 := Ext.cell_some hE4 hb2_1; replace hb2_2 := Ext.cell_some hE4 hb2_2)) | (go_at_call 18; ((with_reducible refine (RCheck_any _ c _ (by exact CodeV.of hF hM HW.out)).mono ?_); rintro e Wc5 ⟨rfl, hEc5⟩; (try replace hEc5 := Ext.undrew hEc5); (try replace hE := hE.trans hEc5); (try replace hF := hF.ext hEc5); (try replace hM := hM.ext hEc5); (try replace hB4 := hB4.ext hEc5); (try replace hK := hK.ext hEc5); (try replace hB9 := hB9.ext hEc5); (try replace hO95 := hO95.ext hEc5); (try replace hB2 := hB2.ext hEc5); (try replace hb9_0 := Ext.cell_some hEc5 hb9_0); (try replace hb9_1 := Ext.cell_some hEc5 hb9_1); (try replace hb2_0 := Ext.cell_some hEc5 hb2_0); (try replace hb2_1 := Ext.cell_some hEc5 hb2_1); (try replace hb2_2 := Ext.cell_some hEc5 hb2_2))) | (go_at_call 95; ((with_reducible refine (Rparsed_any _ c text _ (by exact CodeV.of hF hM HW.out) Ho.out H6.out).mono ?_); rintro e Wc6 ⟨kv, rfl, hO95, hEc6⟩; (try replace hEc6 := Ext.undrew hEc6); (try replace hE := hE.trans hEc6); (try replace hF := hF.ext hEc6); (try replace hM := hM.ext hEc6); (try replace hB4 := hB4.ext hEc6); (try replace hK := hK.ext hEc6); (try replace hB9 := hB9.ext hEc6); (try replace hO95 := hO95.ext hEc6); (try replace hB2 := hB2.ext hEc6); (try replace hb9_0 := Ext.cell_some hEc6 hb9_0); (try replace hb9_1 := Ext.cell_some hEc6 hb9_1); (try replace hb2_0 := Ext.cell_some hEc6 hb2_0); (try replace hb2_1 := Ext.cell_some hEc6 hb2_1); (try replace hb2_2 := Ext.cell_some hEc6 hb2_2); have hK := OwnL.lines hO95)) | (((with_reducible refine q_newvar (e := 39) (u := 9) (v := .agg #[.int .i64 (parsedOf c text).lines, kv]) ti39 ?_ ?_ ?_ ?_ ?_ ?_); (intro g; rfl); (intro g; rfl); rfl; rfl; (obtain ⟨_, _, ek, _⟩ := hK; rw [ek]; simp [Value.cells, Value.oneCell']); intro W9 g9 hE9 hB9 hg9; simp [Value.cells] at hB9; have hb9_0 := hB9.cell 0; have hb9_1 := hB9.cell 1; simp at hb9_0 hb9_1; replace hE := hE.trans hE9; replace hF := hF.ext hE9; replace hM := hM.ext hE9; replace hK := hK.ext hE9; replace hO95 := hO95.ext hE9; replace hB4 := hB4.ext hE9; replace hB2 := hB2.ext hE9; replace hb2_0 := Ext.cell_some hE9 hb2_0; replace hb2_1 := Ext.cell_some hE9 hb2_1; replace hb2_2 := Ext.cell_some hE9 hb2_2)) | (go_at_call 96; ((with_reducible refine (RSheet_any _ _ c (parsedOf c text) _ (by exact CodeV.of hF hM HW.out) (by exact SheetV.of hK) Ho.out).mono ?_); rintro e Wc7 ⟨rfl, hEc7⟩; (try replace hEc7 := Ext.undrew hEc7); (try replace hE := hE.trans hEc7); (try replace hF := hF.ext hEc7); (try replace hM := hM.ext hEc7); (try replace hB4 := hB4.ext hEc7); (try replace hK := hK.ext hEc7); (try replace hB9 := hB9.ext hEc7); (try replace hO95 := hO95.ext hEc7); (try replace hB2 := hB2.ext hEc7); (try replace hb9_0 := Ext.cell_some hEc7 hb9_0); (try replace hb9_1 := Ext.cell_some hEc7 hb9_1); (try replace hb2_0 := Ext.cell_some hEc7 hb2_0); (try replace hb2_1 := Ext.cell_some hEc7 hb2_1); (try replace hb2_2 := Ext.cell_some hEc7 hb2_2))) | (go_at_call 87; ((with_reducible refine (RText_any _ _ c (parsedOf c text) _ (by exact CodeV.of hF hM HW.out) (by exact SheetV.of hK) Ho.out Hs.out).mono ?_); rintro e Wc8 ⟨rfl, hEc8⟩; (try replace hEc8 := Ext.undrew hEc8); (try replace hE := hE.trans hEc8); (try replace hF := hF.ext hEc8); (try replace hM := hM.ext hEc8); (try replace hB4 := hB4.ext hEc8); (try replace hK := hK.ext hEc8); (try replace hB9 := hB9.ext hEc8); (try replace hO95 := hO95.ext hEc8); (try replace hB2 := hB2.ext hEc8); (try replace hb9_0 := Ext.cell_some hEc8 hb9_0); (try replace hb9_1 := Ext.cell_some hEc8 hb9_1); (try replace hb2_0 := Ext.cell_some hEc8 hb2_0); (try replace hb2_1 := Ext.cell_some hEc8 hb2_1); (try replace hb2_2 := Ext.cell_some hEc8 hb2_2))) | (((with_reducible refine q_store (t := 39) (e := 39) (g := g4) (off := 0) (n := 2) (v := .agg #[.int .i64 0, .slice none 0 0]) ?_ ?_ hB4 size39 ?_ ?_ ?_ ?_); rfl; rfl; rfl; (simp [Value.cells]); (simp [Value.cells, Value.oneCell']); intro W60 hB60 hgr60; simp [putAt, Value.cells] at hB60; replace hE := below_grown hE hgr60 hg40 hE.size)) | ((with_reducible refine q_box (d := some 2) ?_); intro W2 g2 hE2 hB2 hg2; simp [Act.eval, Act.put, Value.cells] at hB2; (try replace hE := hE.trans hE2); (try replace hF := hF.ext hE2); (try replace hM := hM.ext hE2); (try replace hB4 := hB4.ext hE2); (try replace hK := hK.ext hE2); (try replace hB9 := hB9.ext hE2); (try replace hO95 := hO95.ext hE2); (try replace hB2 := hB2.ext hE2); (try replace hb9_0 := Ext.cell_some hE2 hb9_0); (try replace hb9_1 := Ext.cell_some hE2 hb9_1); (try replace hb2_0 := Ext.cell_some hE2 hb2_0); (try replace hb2_1 := Ext.cell_some hE2 hb2_1); (try replace hb2_2 := Ext.cell_some hE2 hb2_2); have hb2_0 := hB2.cell 0; have hb2_1 := hB2.cell 1; have hb2_2 := hB2.cell 2; simp at hb2_0 hb2_1 hb2_2; clear hE2))
          refine ret_c2 rfl rfl rfl (ld_sheet hB60) ?_
          exact ⟨_, rfl, SheetV.of (s := ⟨0, []⟩) (Sl.none_ _ 3), hE⟩
      · have q3 : ((parsedOf c text).err c != 0) = true := by simp [he]
        have Hr := Lib.hid (read_6 hr0 (fun h => he h.1))
        clear ha he hr0
        rw [Hr.out]
        go_enter Tryz.func41, Tryz.ntmps41
        go_wp2_with (first | (((with_reducible refine q_alloc (d := some 4) ti39 ?_); intro W4 g4 hE4 hB4 hg4; have hg40 : w.heap.size ≤ g4 := Nat.le_trans hE.size hg4; replace hE := hE.trans hE4; replace hF := hF.ext hE4; replace hM := hM.ext hE4; replace hB2 := hB2.ext hE4; replace hb2_0 := Ext.cell_some hE4 hb2_0; replace hb2_1 := Ext.cell_some hE4 hb2_1; replace hb2_2 := Ext.cell_some hE4 hb2_2)) | (go_at_call 18; ((with_reducible refine (RCheck_any _ c _ (by exact CodeV.of hF hM HW.out)).mono ?_); rintro e Wc9 ⟨rfl, hEc9⟩; (try replace hEc9 := Ext.undrew hEc9); (try replace hE := hE.trans hEc9); (try replace hF := hF.ext hEc9); (try replace hM := hM.ext hEc9); (try replace hB4 := hB4.ext hEc9); (try replace hK := hK.ext hEc9); (try replace hB9 := hB9.ext hEc9); (try replace hO95 := hO95.ext hEc9); (try replace hB2 := hB2.ext hEc9); (try replace hb9_0 := Ext.cell_some hEc9 hb9_0); (try replace hb9_1 := Ext.cell_some hEc9 hb9_1); (try replace hb2_0 := Ext.cell_some hEc9 hb2_0); (try replace hb2_1 := Ext.cell_some hEc9 hb2_1); (try replace hb2_2 := Ext.cell_some hEc9 hb2_2))) | (go_at_call 95; ((with_reducible refine (Rparsed_any _ c text _ (by exact CodeV.of hF hM HW.out) Ho.out H6.out).mono ?_); rintro e Wc10 ⟨kv, rfl, hO95, hEc10⟩; (try replace hEc10 := Ext.undrew hEc10); (try replace hE := hE.trans hEc10); (try replace hF := hF.ext hEc10); (try replace hM := hM.ext hEc10); (try replace hB4 := hB4.ext hEc10); (try replace hK := hK.ext hEc10); (try replace hB9 := hB9.ext hEc10); (try replace hO95 := hO95.ext hEc10); (try replace hB2 := hB2.ext hEc10); (try replace hb9_0 := Ext.cell_some hEc10 hb9_0); (try replace hb9_1 := Ext.cell_some hEc10 hb9_1); (try replace hb2_0 := Ext.cell_some hEc10 hb2_0); (try replace hb2_1 := Ext.cell_some hEc10 hb2_1); (try replace hb2_2 := Ext.cell_some hEc10 hb2_2); have hK := OwnL.lines hO95)) | (((with_reducible refine q_newvar (e := 39) (u := 9) (v := .agg #[.int .i64 (parsedOf c text).lines, kv]) ti39 ?_ ?_ ?_ ?_ ?_ ?_); (intro g; rfl); (intro g; rfl); rfl; rfl; (obtain ⟨_, _, ek, _⟩ := hK; rw [ek]; simp [Value.cells, Value.oneCell']); intro W9 g9 hE9 hB9 hg9; simp [Value.cells] at hB9; have hb9_0 := hB9.cell 0; have hb9_1 := hB9.cell 1; simp at hb9_0 hb9_1; replace hE := hE.trans hE9; replace hF := hF.ext hE9; replace hM := hM.ext hE9; replace hK := hK.ext hE9; replace hO95 := hO95.ext hE9; replace hB4 := hB4.ext hE9; replace hB2 := hB2.ext hE9; replace hb2_0 := Ext.cell_some hE9 hb2_0; replace hb2_1 := Ext.cell_some hE9 hb2_1; replace hb2_2 := Ext.cell_some hE9 hb2_2)) | (go_at_call 96; ((with_reducible refine (RSheet_any _ _ c (parsedOf c text) _ (by exact CodeV.of hF hM HW.out) (by exact SheetV.of hK) Ho.out).mono ?_); rintro e Wc11 ⟨rfl, hEc11⟩; (try replace hEc11 := Ext.undrew hEc11); (try replace hE := hE.trans hEc11); (try replace hF := hF.ext hEc11); (try replace hM := hM.ext hEc11); (try replace hB4 := hB4.ext hEc11); (try replace hK := hK.ext hEc11); (try replace hB9 := hB9.ext hEc11); (try replace hO95 := hO95.ext hEc11); (try replace hB2 := hB2.ext hEc11); (try replace hb9_0 := Ext.cell_some hEc11 hb9_0); (try replace hb9_1 := Ext.cell_some hEc11 hb9_1); (try replace hb2_0 := Ext.cell_some hEc11 hb2_0); (try replace hb2_1 := Ext.cell_some hEc11 hb2_1); (try replace hb2_2 := Ext.cell_some hEc11 hb2_2))) | (((with_reducible refine q_store (t := 39) (e := 39) (g := g4) (off := 0) (n := 2) (v := .agg #[.int .i64 0, .slice none 0 0]) ?_ ?_ hB4 size39 ?_ ?_ ?_ ?_); rfl; rfl; rfl; (simp [Value.cells]); (simp [Value.cells, Value.oneCell']); intro W60 hB60 hgr60; simp [putAt, Value.cells] at hB60; replace hE := below_grown hE hgr60 hg40 hE.size)) | ((with_reducible refine q_box (d := some 2) ?_); intro W2 g2 hE2 hB2 hg2; simp [Act.eval, Act.put, Value.cells] at hB2; (try replace hE := hE.trans hE2); (try replace hF := hF.ext hE2); (try replace hM := hM.ext hE2); (try replace hB4 := hB4.ext hE2); (try replace hK := hK.ext hE2); (try replace hB9 := hB9.ext hE2); (try replace hO95 := hO95.ext hE2); (try replace hB2 := hB2.ext hE2); (try replace hb9_0 := Ext.cell_some hE2 hb9_0); (try replace hb9_1 := Ext.cell_some hE2 hb9_1); (try replace hb2_0 := Ext.cell_some hE2 hb2_0); (try replace hb2_1 := Ext.cell_some hE2 hb2_1); (try replace hb2_2 := Ext.cell_some hE2 hb2_2); have hb2_0 := hB2.cell 0; have hb2_1 := hB2.cell 1; have hb2_2 := hB2.cell 2; simp at hb2_0 hb2_1 hb2_2; clear hE2))
        refine ret_c2 rfl rfl rfl (ld_sheet hB60) ?_
        exact ⟨_, rfl, SheetV.of (s := ⟨0, []⟩) (Sl.none_ _ 3), hE⟩
    · have q2 : (600 : Int) < text.size := by omega
      have Hr := Lib.hid (read_e (c := c) (t := text) (by rw [readErr_3 ha h6]; decide))
      rw [readErr_3 ha h6] at Hr
      clear ha
      rw [Hr.out]
      go_enter Tryz.func41, Tryz.ntmps41
      go_wp2_with (first | (((with_reducible refine q_alloc (d := some 4) ti39 ?_); intro W4 g4 hE4 hB4 hg4; have hg40 : w.heap.size ≤ g4 := Nat.le_trans hE.size hg4; replace hE := hE.trans hE4; replace hF := hF.ext hE4; replace hM := hM.ext hE4; replace hB2 := hB2.ext hE4; replace hb2_0 := Ext.cell_some hE4 hb2_0; replace hb2_1 := Ext.cell_some hE4 hb2_1; replace hb2_2 := Ext.cell_some hE4 hb2_2)) | (go_at_call 18; ((with_reducible refine (RCheck_any _ c _ (by exact CodeV.of hF hM HW.out)).mono ?_); rintro e Wc12 ⟨rfl, hEc12⟩; (try replace hEc12 := Ext.undrew hEc12); (try replace hE := hE.trans hEc12); (try replace hF := hF.ext hEc12); (try replace hM := hM.ext hEc12); (try replace hB4 := hB4.ext hEc12); (try replace hK := hK.ext hEc12); (try replace hB9 := hB9.ext hEc12); (try replace hO95 := hO95.ext hEc12); (try replace hB2 := hB2.ext hEc12); (try replace hb9_0 := Ext.cell_some hEc12 hb9_0); (try replace hb9_1 := Ext.cell_some hEc12 hb9_1); (try replace hb2_0 := Ext.cell_some hEc12 hb2_0); (try replace hb2_1 := Ext.cell_some hEc12 hb2_1); (try replace hb2_2 := Ext.cell_some hEc12 hb2_2))) | (((with_reducible refine q_store (t := 39) (e := 39) (g := g4) (off := 0) (n := 2) (v := .agg #[.int .i64 0, .slice none 0 0]) ?_ ?_ hB4 size39 ?_ ?_ ?_ ?_); rfl; rfl; rfl; (simp [Value.cells]); (simp [Value.cells, Value.oneCell']); intro W60 hB60 hgr60; simp [putAt, Value.cells] at hB60; replace hE := below_grown hE hgr60 hg40 hE.size)) | ((with_reducible refine q_box (d := some 2) ?_); intro W2 g2 hE2 hB2 hg2; simp [Act.eval, Act.put, Value.cells] at hB2; (try replace hE := hE.trans hE2); (try replace hF := hF.ext hE2); (try replace hM := hM.ext hE2); (try replace hB4 := hB4.ext hE2); (try replace hK := hK.ext hE2); (try replace hB9 := hB9.ext hE2); (try replace hO95 := hO95.ext hE2); (try replace hB2 := hB2.ext hE2); (try replace hb9_0 := Ext.cell_some hE2 hb9_0); (try replace hb9_1 := Ext.cell_some hE2 hb9_1); (try replace hb2_0 := Ext.cell_some hE2 hb2_0); (try replace hb2_1 := Ext.cell_some hE2 hb2_1); (try replace hb2_2 := Ext.cell_some hE2 hb2_2); have hb2_0 := hB2.cell 0; have hb2_1 := hB2.cell 1; have hb2_2 := hB2.cell 2; simp at hb2_0 hb2_1 hb2_2; clear hE2))
      refine ret_c2 rfl rfl rfl (ld_sheet hB60) ?_
      exact ⟨_, rfl, SheetV.of (s := ⟨0, []⟩) (Sl.none_ _ 3), hE⟩
  · have q1 : (c.check.2.2 == 0) = false := by simp [ha]
    have q2 : (c.check.2.2 != 0) = true := by simp [ha]
    have Hr := Lib.hid (read_e (c := c) (t := text) (by rw [readErr_c ha]; exact ha))
    rw [readErr_c ha] at Hr
    clear ha
    rw [Hr.out]
    go_enter Tryz.func41, Tryz.ntmps41
    go_wp2_with (first | (((with_reducible refine q_alloc (d := some 4) ti39 ?_); intro W4 g4 hE4 hB4 hg4; have hg40 : w.heap.size ≤ g4 := Nat.le_trans hE.size hg4; replace hE := hE.trans hE4; replace hF := hF.ext hE4; replace hM := hM.ext hE4; replace hB2 := hB2.ext hE4; replace hb2_0 := Ext.cell_some hE4 hb2_0; replace hb2_1 := Ext.cell_some hE4 hb2_1; replace hb2_2 := Ext.cell_some hE4 hb2_2)) | (go_at_call 18; ((with_reducible refine (RCheck_any _ c _ (by exact CodeV.of hF hM HW.out)).mono ?_); rintro e Wc13 ⟨rfl, hEc13⟩; (try replace hEc13 := Ext.undrew hEc13); (try replace hE := hE.trans hEc13); (try replace hF := hF.ext hEc13); (try replace hM := hM.ext hEc13); (try replace hB4 := hB4.ext hEc13); (try replace hK := hK.ext hEc13); (try replace hB9 := hB9.ext hEc13); (try replace hO95 := hO95.ext hEc13); (try replace hB2 := hB2.ext hEc13); (try replace hb9_0 := Ext.cell_some hEc13 hb9_0); (try replace hb9_1 := Ext.cell_some hEc13 hb9_1); (try replace hb2_0 := Ext.cell_some hEc13 hb2_0); (try replace hb2_1 := Ext.cell_some hEc13 hb2_1); (try replace hb2_2 := Ext.cell_some hEc13 hb2_2))) | (((with_reducible refine q_store (t := 39) (e := 39) (g := g4) (off := 0) (n := 2) (v := .agg #[.int .i64 0, .slice none 0 0]) ?_ ?_ hB4 size39 ?_ ?_ ?_ ?_); rfl; rfl; rfl; (simp [Value.cells]); (simp [Value.cells, Value.oneCell']); intro W60 hB60 hgr60; simp [putAt, Value.cells] at hB60; replace hE := below_grown hE hgr60 hg40 hE.size)) | ((with_reducible refine q_box (d := some 2) ?_); intro W2 g2 hE2 hB2 hg2; simp [Act.eval, Act.put, Value.cells] at hB2; (try replace hE := hE.trans hE2); (try replace hF := hF.ext hE2); (try replace hM := hM.ext hE2); (try replace hB4 := hB4.ext hE2); (try replace hK := hK.ext hE2); (try replace hB9 := hB9.ext hE2); (try replace hO95 := hO95.ext hE2); (try replace hB2 := hB2.ext hE2); (try replace hb9_0 := Ext.cell_some hE2 hb9_0); (try replace hb9_1 := Ext.cell_some hE2 hb9_1); (try replace hb2_0 := Ext.cell_some hE2 hb2_0); (try replace hb2_1 := Ext.cell_some hE2 hb2_1); (try replace hb2_2 := Ext.cell_some hE2 hb2_2); have hb2_0 := hB2.cell 0; have hb2_1 := hB2.cell 1; have hb2_2 := hB2.cell 2; simp at hb2_0 hb2_1 hb2_2; clear hE2))
    refine ret_c2 rfl rfl rfl (ld_sheet hB60) ?_
    exact ⟨_, rfl, SheetV.of (s := ⟨0, []⟩) (Sl.none_ _ 3), hE⟩
end Go.Bp
end
section
/- A range over a function whose iterator keeps state of its own in cells: the law for the caller, at the wide fence. No program stands in it. -/
set_option maxRecDepth 100000
namespace Go.Bp
open Go.RowKit
/-- The blocks from B on lie as they lay. -/
structure Up (B : Nat) (W W' : World) : Prop where
  size : W.heap.size ≤ W'.heap.size
  block : ∀ k, B ≤ k → k < W.heap.size → W'.heap[k]? = W.heap[k]?
theorem Up.refl (B : Nat) (W : World) : Up B W W := ⟨Nat.le_refl _, fun _ _ _ => rfl⟩
theorem Up.trans {B : Nat} {X Y Z : World} (h : Up B X Y) (k : Up B Y Z) : Up B X Z := ⟨Nat.le_trans h.size k.size, fun i hB hi => (k.block i hB (by have := h.size; omega)).trans (h.block i hB hi)⟩
theorem Up.mono {B C : Nat} {X Y : World} (h : Up B X Y) (hB : B ≤ C) : Up C X Y := ⟨h.size, fun i hi hl => h.block i (by omega) hl⟩
theorem Up.ofExt {B : Nat} {X Y : World} (h : Ext X Y) : Up B X Y := ⟨h.size, fun i _ hi => h.block i hi⟩
theorem Up.grown {B : Nat} {X Y : World} {row : Option Nat} (hg : X.grownBy Y row) (hr : ∀ g, row = some g → g < B) : Up B X Y :=
  ⟨hg.size, fun k hB hk => hg.block k hk (fun e => by have := hr k e.symm; omega)⟩
theorem Up.putObj {B : Nat} (W : World) (l : Nat) (o : Obj) (hl : l < B) : Up B W (W.putObj l o) := ⟨by simp, fun k hk _ => World.putObj_heap_other (by omega)⟩
theorem grown_of_ext {A B : World} (h : Ext A B) : A.grownBy B none := ⟨h.os, h.tape, h.output, h.size, fun k hk _ => h.block k hk⟩

/-- The contract of an iterator value: it hands out values x of which Giv tells, in order; it writes into blocks of its own alone (from the heap's size on at which it began); what it reads is told by Dt. -/
def SeqC {α : Type} (P : Program) (g : Nat) (lb : Array Value) (encs : α → Array Value) (Giv : α → World → Prop) (Dt : World → Prop) (S Sp : List α → Prop) (N : Nat) : Prop :=
  ∀ (l : Nat) (J Jx : List α → World → Prop) (W : World), (∀ s A B, J s A → Below W.heap.size A B → J s B) → (∀ s A B, Jx s A → Ext A B → Jx s B) → (∀ s A, J s A → Dt A) →
    (∀ pre x W1, J pre W1 → Giv x W1 → pre.length < N → W.heap.size ≤ W1.heap.size → YieldAt Fence.wide 0 P l (encs x) W1 fun e W' =>
      (e = .returned (.bool true) ∧ J (pre ++ [x]) W' ∧ Up W.heap.size W1 W') ∨ (e = .returned (.bool false) ∧ Jx (pre ++ [x]) W')) →
    J [] W →
    Calls P g (#[.func (.yield l) #[] #[]] ++ lb) W fun e W' => (∃ v, e = .returned v) ∧ ((∃ xs, S xs ∧ J xs W') ∨ (∃ pre, Sp pre ∧ Jx pre W'))

/-- How the body of a round may be left. -/
def postC {α : Type} (B : Nat) (I : List α → World → Prop) (Ix : Go.Code → List α → World → Prop) (xs : List α) (W : World) : Exit → Act → World → Prop
  | .normal, _, W' => Up B W W' ∧ I xs W'
  | .ret, _, W' => Up B W W' ∧ Ix .ret xs W'
  | .exit id, _, W' => Up B W W' ∧ Ix (.exit id) xs W'
  | .goto t, _, W' => Up B W W' ∧ Ix (.goto t) xs W'
  | .panic _, _, _ => False
  | .outgrown, _, _ => False

theorem wp_rangeFuncC {P : Program} {α : Type} {g : Operand} {ps : Array Tmp} {assign body : Go.Code} {Q : Exit → Act → World → Prop} {a : Act} {w : World}
    {gf : Nat} {lb : Array Value} (hg : a.eval g = .func (.func gf) #[] lb) (eg : ∀ args w, (callFunc gf args).run P w = .ok (.enter gf args) w)
    {encs : α → Array Value} {Giv : α → World → Prop} {Dt : World → Prop} {S Sp : List α → Prop} {N : Nat} (hseq : SeqC P gf lb encs Giv Dt S Sp N) (hps : ∀ x, (encs x).size = ps.size)
    (hGv : OwnFrom 0 Giv)
    (I : List α → World → Prop) (Ix : Go.Code → List α → World → Prop) (hI : ∀ s A B, I s A → Below w.heap.size A B → I s B) (hIx : ∀ c, OwnFrom w.heap.size (Ix c)) (hDt : ∀ s A, I s A → Dt A) (h0 : I [] w) (a₁ : α → Act)
    (hassign : ∀ (l : Nat) (x : α) (W : World) (K : Act → World → Prop), K (a₁ x) W →
      assign.wpIn (Fence.wide.inRound l) 0 P (Exit.then K (fun _ _ _ => False)) { tmps := (ps.zip (encs x)).foldl (fun t (p, v) => t.setIfInBounds p v) a.tmps, defers := [] } W)
    (hbody : ∀ (l : Nat) (pre : List α) (x : α) (W : World), I pre W → Giv x W → pre.length < N → w.heap.size < W.heap.size → body.wpIn (Fence.wide.inRound l) 0 P (postC w.heap.size I Ix (pre ++ [x]) W) (a₁ x) W)
    (hdone : ∀ (D : Nat) (xs : List α) (W : World), w.heap.size ≤ D → S xs → I xs W → W.heap[D]? = some (.deferred (some [])) → Q .normal { a with defers := { target := .collected D, args := #[] } :: a.defers } W)
    (hstop : ∀ (D : Nat) (c : Go.Code) (pre : List α) (W : World), w.heap.size ≤ D → Sp pre → Ix c pre W → W.heap[D]? = some (.deferred (some [])) → c.wp P Q { a with defers := { target := .collected D, args := #[] } :: a.defers } W) :
    (Go.Code.rangeFunc g ps assign body).wp P Q a w := by
  refine wpIn_wide (n := 0).1 (wpIn_rangeFunc ?_)
  intro fn hfn
  rw [show Fence.wide.round = none from rfl]
  obtain ⟨rec, hrec⟩ : ∃ rec : LoopState → Option Go.Code → Loop, rec = fun st pe => { state := st, pending := pe, fn, tmps := a.tmps, params := ps, assign, body, defers := w.heap.size } := ⟨_, rfl⟩
  obtain ⟨W1, hW1⟩ : ∃ W1, (w.alloc (.deferred (some []))).alloc (.loop (rec .ready none)) = W1 := ⟨_, rfl⟩
  have hs1 : W1.heap.size = w.heap.size + 2 := by rw [← hW1]; simp
  have hL1 : W1.heap[w.heap.size + 1]? = some (.loop (rec .ready none)) := by
    rw [← hW1]; have := World.alloc_heap_new (w.alloc (.deferred (some []))) (.loop (rec .ready none)); rwa [World.size_alloc] at this
  have hK1 : W1.heap[w.heap.size]? = some (.deferred (some [])) := by
    rw [← hW1]; exact (Below.heap_alloc _ _ _ (by simp)).trans (World.alloc_heap_new w _)
  have hb1 : Below w.heap.size w W1 := by
    rw [← hW1]; exact (((Below.refl _ w).alloc (Nat.le_refl _) _).alloc (by simp) _)
  have hI1 : I [] W1 := hI _ _ _ h0 hb1
  have hIp : ∀ s (A : World) l o, I s A → w.heap.size ≤ l → I s (A.putObj l o) := fun s A l o hs hl =>
    hI s A _ hs ⟨rfl, rfl, rfl, by simp, fun k hk => World.putObj_heap_other (by omega)⟩
  refine ⟨w.heap.size + 1, [{ target := .collected w.heap.size, args := #[] }], W1, { target := .fn (.func gf) lb, args := #[.func (.yield (w.heap.size + 1)) #[] #[]] }, W1, gf,
    #[.func (.yield (w.heap.size + 1)) #[] #[]] ++ lb, W1, ?_, ?_, ?_, ?_, fun h => by simp [Fence.wide] at h, ?_⟩
  · rw [← hW1, hrec]; exact run_enterLoop_outer _ _ _ _ _
  · simp only [resolve, hg]
    simp [go_sem]
  · intro f' hf'; trivial
  · simp [invoke, go_sem, eg]
  · refine callsIn_wide.2 (Calls.mono (hseq (w.heap.size + 1)
      (fun pre W => I pre W ∧ W.heap[w.heap.size + 1]? = some (.loop (rec .ready none)) ∧ W.heap[w.heap.size]? = some (.deferred (some [])))
      (fun pre W => ∃ c, Ix c pre W ∧ W.heap[w.heap.size + 1]? = some (.loop (rec .done (some c))) ∧ W.heap[w.heap.size]? = some (.deferred (some [])))
      W1 ?_ ?_ (fun s A hs => hDt s A hs.1) ?_ ⟨hI1, hL1, hK1⟩) ?_)
    · rintro s A B ⟨h1, h2, h3⟩ hb
      exact ⟨hI s A B h1 (hb.mono (by omega)), (hb.block _ (by omega)).trans h2, (hb.block _ (by omega)).trans h3⟩
    · rintro s A B ⟨c, h1, h2, h3⟩ hb
      exact ⟨c, hIx c s A B none h1 (grown_of_ext hb) (fun r e => by cases e), hb.heap_some h2, hb.heap_some h3⟩
    · -- one round
      rintro pre x W ⟨hi, hl, hk⟩ hgv hlen hsz
      have hlt : w.heap.size + 1 < W.heap.size := (Array.getElem?_eq_some_iff.1 hl).1
      have hy := run_yield (P := P) (args := encs x) hl (by rw [hrec]; exact hps x)
      rw [hrec] at hy
      refine ⟨fn, _, assign, body, hy, roundIn_of_wpIn hfn (hassign _ x W _ ⟨_, run_beginRound hl (by rw [hrec]), ?_⟩)⟩
      have hl2 : (W.putObj (w.heap.size + 1) (.loop { rec .ready none with state := .busy })).heap[w.heap.size + 1]? = some (.loop { rec .ready none with state := .busy }) := World.putObj_heap_same hlt
      have hk2 : (W.putObj (w.heap.size + 1) (.loop { rec .ready none with state := .busy })).heap[w.heap.size]? = some (.deferred (some [])) := (World.putObj_heap_other (by omega)).trans hk
      have hw2 : Up W1.heap.size W (W.putObj (w.heap.size + 1) (.loop { rec .ready none with state := .busy })) := Up.putObj _ _ _ (by omega)
      have hgv2 := hGv x W _ (some (w.heap.size + 1)) hgv (grownBy_putObj' W (w.heap.size + 1) (.loop { rec .ready none with state := .busy })) (fun r e => by cases e; exact ⟨Nat.zero_le _, _, hl, rfl⟩)
      refine wpIn_mono (hbody _ pre x _ (hIp _ _ _ _ hi (by omega)) hgv2 hlen (by simp; omega)) ?_
      have fin : ∀ (jump : Option Go.Code) (W3 : World), Up w.heap.size (W.putObj (w.heap.size + 1) (.loop { rec .ready none with state := .busy })) W3 →
          (Instr.endRound (w.heap.size + 1) jump).run P W3 = .ok (.bool jump.isNone) (W3.putObj (w.heap.size + 1) (.loop (rec (if jump.isNone then .ready else .done) jump))) ∧
          W3.heap[w.heap.size + 1]? = some (.loop { rec .ready none with state := .busy }) ∧
          (W3.putObj (w.heap.size + 1) (.loop (rec (if jump.isNone then .ready else .done) jump))).heap[w.heap.size + 1]? = some (.loop (rec (if jump.isNone then .ready else .done) jump)) ∧
          (W3.putObj (w.heap.size + 1) (.loop (rec (if jump.isNone then .ready else .done) jump))).heap[w.heap.size]? = some (.deferred (some [])) := fun jump W3 hk3 => by
        have hl3 := (hk3.block _ (by omega) (by simp; omega)).trans hl2
        have := run_endRound (P := P) jump hl3
        rw [hrec] at this ⊢
        exact ⟨this, by rw [hrec] at hl3; exact hl3, World.putObj_heap_same (Array.getElem?_eq_some_iff.1 hl3).1, (World.putObj_heap_other (by omega)).trans ((hk3.block _ (Nat.le_refl _) (by simp; omega)).trans hk2)⟩
      rintro e a3 W3 hp
      cases e with
      | normal =>
        obtain ⟨hk3, hi3⟩ := hp
        obtain ⟨hr, hl3, hl4, hk4⟩ := fin none W3 hk3
        exact ⟨_, _, hr, .inl ⟨rfl, ⟨hIp _ _ _ _ hi3 (by omega), hl4, hk4⟩, (hw2.trans (hk3.mono (by omega))).trans (Up.putObj _ _ _ (by omega))⟩⟩
      | ret =>
        obtain ⟨hk3, hi3⟩ := hp
        obtain ⟨hr, hl3, hl4, hk4⟩ := fin (some .ret) W3 hk3
        exact ⟨_, _, hr, .inr ⟨rfl, .ret, (hIx _).putObj _ hi3 (by omega) hl3 rfl, hl4, hk4⟩⟩
      | exit id =>
        obtain ⟨hk3, hi3⟩ := hp
        obtain ⟨hr, hl3, hl4, hk4⟩ := fin (some (.exit id)) W3 hk3
        exact ⟨_, _, hr, .inr ⟨rfl, .exit id, (hIx _).putObj _ hi3 (by omega) hl3 rfl, hl4, hk4⟩⟩
      | goto t =>
        obtain ⟨hk3, hi3⟩ := hp
        obtain ⟨hr, hl3, hl4, hk4⟩ := fin (some (.goto t)) W3 hk3
        exact ⟨_, _, hr, .inr ⟨rfl, .goto t, (hIx _).putObj _ hi3 (by omega) hl3 rfl, hl4, hk4⟩⟩
      | panic ch => exact hp.elim
      | outgrown => exact hp.elim
    · -- behind the iterator
      rintro e W2 ⟨⟨v, rfl⟩, (⟨xs, hS, hi, hl, hk⟩ | ⟨pre, hSp, c, hi, hl, hk⟩)⟩
      · exact ⟨none, _, by have := run_endLoop (P := P) hl (by rw [hrec]; simp); rw [hrec] at this; exact this, hdone _ xs _ (Nat.le_refl _) hS (hIp _ _ _ _ hi (by omega)) ((World.putObj_heap_other (by omega)).trans hk)⟩
      · exact ⟨some c, _, by have := run_endLoop (P := P) hl (by rw [hrec]; simp); rw [hrec] at this; exact this, wpIn_wide.2 (hstop _ c pre _ (Nat.le_refl _) hSp ((hIx c).putObj _ hi (by omega) hl rfl) ((World.putObj_heap_other (by omega)).trans hk))⟩

section
variable {P : Program} {ops : Array Oper} {Q : Exit → Act → World → Prop} {n : Nat}
/-- In a round whatever is no defer statement is carried out as anywhere. -/
theorem operIn_of_wp {o : Oper} {a : Act} {w : World} {l : Nat} {next next' : Act → World → Prop} (hd : ∀ c, o.op ≠ .defer c) (hn : ∀ a w, next a w → next' a w) (h : o.wp P a w next Q) : o.wpIn (Fence.wide.inRound l) n P a w next' Q := by
  refine ⟨fun _ _ => trivial, ?_⟩
  have e : o.semAt (Fence.wide.inRound l).round a.eval = execOp a.eval o := Oper.semAt_eq _ _ _ hd
  rw [e]
  unfold Oper.wp at h
  cases hr : (execOp a.eval o).run P w with
  | ok x w' =>
    rw [hr] at h
    cases x with
    | value v => exact hn _ _ h
    | skip => exact hn _ _ h
    | defer d => exact hn _ _ h
    | enter f args =>
      refine ⟨fun h => by simp [Fence.wide, Fence.inRound] at h, ?_⟩
      refine CallsIn.inRound l (callsIn_wide.2 (Calls.mono h fun e w'' he => ?_))
      cases e with
      | returned v => exact hn _ _ he
      | panicked c => exact he
      | outgrown => exact he
    | row r args =>
      refine ⟨fun h => by simp [Fence.wide, Fence.inRound] at h, fun c cs _ => ?_⟩
      obtain ⟨v, w2, h1, h2⟩ := h c cs
      exact ⟨v, w2, hn _ _ h1, stepsIn_wide.2 h2⟩
    | _ => exact h.elim
  | halt x w' =>
    rw [hr] at h
    cases x with
    | panic v => exact h
    | _ => exact h.elim
/-- What follows a list of operations. -/
def thenIn (l n : Nat) (P : Program) (ops : Array Oper) (Q : Exit → Act → World → Prop) (r : List Oper) : Exit → Act → World → Prop
  | .normal, a, w => wpListIn (Fence.wide.inRound l) n P ops Q r a w
  | e, a, w => Q e a w
theorem upon_thenIn {o : Oper} {a : Act} {next : Act → World → Prop} {l : Nat} {r : List Oper} {x : Result Next} (h : o.upon P a next (thenIn l n P ops Q r) x) : o.upon P a next Q x := by
  cases x with
  | ok k w' =>
    cases k with
    | enter f args => exact Calls.mono h fun e w'' he => by cases e <;> exact he
    | _ => exact h
  | halt x w' => cases x <;> exact h
/-- One operation of a round's list, by a law on lists. -/
theorem in_list {o : Oper} {rest : List Oper} {a : Act} {w : World} {l : Nat} (hg : o.guard = none) (hd : ∀ c, o.op ≠ .defer c) (hQ : ¬ LetsOut Q) (h : wpList P ops (thenIn l n P ops Q rest) [o] a w) : wpListIn (Fence.wide.inRound l) n P ops Q (o :: rest) a w := by
  unfold wpListIn
  unfold wpList at h
  simp only [Region.wanted, hg, if_true] at h ⊢
  rcases h with h | ⟨_, a2, w2, h2⟩
  · exact operIn_of_wp hd (fun _ _ hk => hk) (upon_thenIn (l := l) (n := n) (r := rest) h)
  · exact absurd ⟨a2, w2, h2⟩ hQ
end
end Go.Bp
end
section
set_option maxRecDepth 100000
set_option linter.unusedSimpArgs false
set_option linter.unusedVariables false
namespace Go.Bp
open Go.RowKit Go.Proofs
theorem pout_any (n lo hi : Int) (w : World) : Calls Tryz.prog 52 #[.int .i64 n, .int .i64 lo, .int .i64 hi] w fun e w' => e = .returned (.bool (!inB n lo hi)) ∧ w = w' := by
  unfold inB
  go_enter Tryz.func52, Tryz.ntmps52
  go_wp2
  all_goals (go_ret; exact ⟨ret_b (by rw [Bool.eq_iff_iff]; simp; try omega), rfl⟩)
set_option maxHeartbeats 1000000 in
theorem PNames_any (cv : Value) (c : Code) (w : World) (h : CodeV w cv c) (hb : c.faults.length ≤ 1000000 ∧ c.man.length ≤ 1000000) :
    Calls Tryz.prog 53 #[cv] w (Ret w fun v w' => OwnS w.heap.size w' v c.names) := by
  obtain ⟨fv, mv, rfl, ⟨A, cp, rfl, h1, h2, h3, h4⟩, hM, hW⟩ := h
  obtain ⟨hb1, hb2⟩ := hb
  unfold maxLen at h2
  clear h3
  have hE := Ext.refl w
  go_enter Tryz.func53, Tryz.ntmps53
  go_wp2_with (first | ((with_reducible refine q_box (d := some 1) ?_); intro W1 g1 hE1 hB1 hg1; simp [Act.eval, Act.put, Value.cells] at hB1; (try replace hE := hE.trans hE1); (try replace hM := hM.ext hE1); (try replace hB1 := hB1.ext hE1); (try replace hb1_0 := Ext.cell_some hE1 hb1_0); (try replace hb1_1 := Ext.cell_some hE1 hb1_1); (try replace hb1_2 := Ext.cell_some hE1 hb1_2); have hb1_0 := hB1.cell 0; have hb1_1 := hB1.cell 1; have hb1_2 := hB1.cell 2; simp at hb1_0 hb1_1 hb1_2; clear hE1))
  have hB0 := hE.size
  have k0 := hb1_0; have k1 := hb1_1; have kM := hM
  go_loopw [2, 8] (fun v i wr => Ext W1 wr ∧ ∃ k : Nat, k ≤ c.faults.length ∧ i = .int .i64 k ∧ OwnS W1.heap.size wr v (fnames (c.faults.take k))) (fun _ i _ => c.faults.length - (intOf i).toNat)
  case atStart => exact ⟨Ext.refl _, 0, by omega, rfl, OwnS.nil _ _⟩
  case round =>
    obtain ⟨hEr, k, hk, rfl, hO⟩ := hrel
    replace k0 := Ext.cell_some hEr k0
    replace k1 := Ext.cell_some hEr k1
    replace kM := kM.ext hEr
    clear hb1_0 hb1_1 hb1_2 hB1 hM
    have hlen := fnames_len c.faults k hk
    by_cases hlt : k < c.faults.length
    · obtain ⟨ad, rfl, hc⟩ := h4 (by omega)
      have eS := ld_f ((hc.ext hE).ext hEr) hlt
      have hn := fnames_snoc c.faults hlt
      have Hn := Lib.hid hn
      have Hl := Lib.hid hlen
      clear h4 hc hn hlen
      go_wp2_with (first | ((with_reducible refine q_load (d := some 11) (hl := eS) ?_ ?_); rfl) | ((with_reducible refine q_newvar (e := 74) (u := 4) (v := .agg #[.string c.faults[k].name, .int .i64 c.faults[k].points, .int .i64 c.faults[k].limit]) ti74 ?_ ?_ ?_ ?_ ?_ ?_); (intro g; rfl); (intro g; rfl); rfl; rfl; (simp [Value.cells, Value.oneCell']); intro W4 g4 hE4 hB4 hg4; simp [Value.cells] at hB4; have b4 := hB4.cell 0; simp at b4; replace hEr := hEr.trans hE4; replace hO := hO.ext hE4) | ((with_reducible refine q_bsS (d := some 15) (n := c.faults[k].name) ?_ ?_); rfl; intro W19 g19 hE19 hB19 hg19; replace hEr := hEr.trans hE19; replace hO := hO.ext hE19) | ((with_reducible refine q_appS (d := some 16) ?_ hO ?_ hB19 ?_ ?_ ?_); rfl; rfl; (rw [Hl.out]; omega); (have := hEr.size; omega); intro v' W20 hO' hmono hgr; replace hEr := hmono _ hEr))
      go_roundw
      case rel => exact ⟨hEr, k + 1, by omega, by go_num, by rw [Hn.out]; exact hO'⟩
      case measure => simp [intOf]; omega
    · obtain rfl : k = c.faults.length := by omega
      have Hl := Lib.hid hlen
      clear hlen h4
      go_wp2_with ((with_reducible refine q_appSS (d := some 21) ?_ hO ?_ kM ?_ ?_ ?_); rfl; rfl; (rw [Hl.out]; omega); (have := hEr.size; omega); intro v' W20 hO' hmono hgr; replace hEr := hmono _ hEr)
      go_ret
      refine ⟨_, rfl, ?_, hE.trans hEr⟩
      have := hO'.base hB0
      rwa [List.take_length] at this
/-- What a byte at place k of a name must be. -/
def chAt (k : Nat) (b : UInt8) : Bool := if k = 0 then inB b.toNat 97 122 else nameCh b
theorem isName_bad {s : ByteArray} {k : Nat} (hk : k < s.size) (h : chAt k s[k] = false) : isName s = false := by
  unfold chAt at h
  split at h
  · rename_i h0; subst h0; exact isName_hd hk h
  · exact isName_ch hk h
theorem isName_good {s : ByteArray} (h1 : inB s.size 1 16 = true) (h : ∀ k (hk : k < s.size), chAt k s[k] = true) : isName s = true := by
  have h0 : 0 < s.size := by have := inB_t.1 h1; omega
  refine isName_yes h1 h0 (by simpa [chAt] using h 0 h0) fun k hk => ?_
  by_cases e : k = 0
  · subst e; have := h 0 h0; simp only [chAt, if_true] at this; simp [nameCh, this]
  · have := h k hk; simpa [chAt, e] using this
theorem ext_iter (w : World) (s : ByteArray) (k : Nat) : Ext w (w.iter s k) := Ext.ofAlloc _ _
set_option maxHeartbeats 2000000 in
theorem PName_any (s : ByteArray) (w : World) (hs : s.size ≤ maxLen) : Calls Tryz.prog 54 #[.string s] w fun e w' => e = .returned (.bool (isName s)) ∧ Ext w w' := by
  unfold maxLen at hs
  go_enter Tryz.func54, Tryz.ntmps54
  go_wp2
  go_loopw [3] (fun i wr => ∃ k : Nat, k ≤ s.size ∧ wr = w.iter s k ∧ ∀ j (hj : j < s.size), j < k → chAt j s[j] = true) (fun _ wr => s.size - wr.iterPos w.heap.size)
  case atStart => exact ⟨0, by omega, rfl, by omega⟩
  case round =>
    obtain ⟨k, hk, rfl, hn⟩ := hrel
    have Hn := Lib.hid hn
    clear hn
    by_cases hlt : k < s.size
    · by_cases hc : chAt k s[k] = true
      · have ha : s[k].toNat < 128 := by
          unfold chAt at hc
          split at hc
          · have := inB_t.1 hc; omega
          · unfold nameCh at hc
            rw [Bool.or_eq_true] at hc
            rcases hc with hc | hc <;> (have := inB_t.1 hc; omega)
        have hx := run_next_ascii (P := Tryz.prog) w s k 0 hlt ha
        obtain ⟨r, hr⟩ : ∃ r : Nat, s[k].toNat = r := ⟨_, rfl⟩
        have Hc := Lib.hid hc
        rw [hr] at hx ha
        have key : (97 ≤ r ∧ r ≤ 122) ∨ (k ≠ 0 ∧ 48 ≤ r ∧ r ≤ 57) := by
          unfold chAt at hc
          split at hc
          · have := inB_t.1 hc; omega
          · rename_i hk0
            unfold nameCh at hc
            rw [Bool.or_eq_true] at hc
            rcases hc with hc | hc
            · have := inB_t.1 hc; omega
            · have := inB_t.1 hc; exact .inr ⟨hk0, by omega⟩
        clear hr hc
        rcases key with ⟨c1, c2⟩ | ⟨c0, c1, c2⟩
        · have d1 : ¬ ((r : Int) < 97) := by omega
          have d2 : ¬ ((122 : Int) < r) := by omega
          go_wp2
          go_roundw
          case rel => exact ⟨k + 1, by omega, rfl, fun j hj hjk => by by_cases e : j = k; · subst e; exact Hc.out
                                                                      · exact Hn.out j hj (by omega)⟩
          case measure => simp; omega
        · have d0 : ((k : Int) == 0) = false := by simp; omega
          have d1 : (r : Int) < 97 := by omega
          have d2 : ¬ ((r : Int) < 48) := by omega
          have d3 : ¬ ((57 : Int) < r) := by omega
          go_wp2
          go_roundw
          case rel => exact ⟨k + 1, by omega, rfl, fun j hj hjk => by by_cases e : j = k; · subst e; exact Hc.out
                                                                      · exact Hn.out j hj (by omega)⟩
          case measure => simp; omega
      · simp only [Bool.not_eq_true] at hc
        have Hf := Lib.hid (isName_bad hlt hc)
        have hx := run_next_any (P := Tryz.prog) w s k 0 hlt
        have key : ((Utf8.decode s k).1 < 97 ∨ 122 < (Utf8.decode s k).1) ∧ (k = 0 ∨ (Utf8.decode s k).1 < 48 ∨ 57 < (Utf8.decode s k).1) := by
          by_cases ha : s[k].toNat < 128
          · rw [decode_ascii s k hlt ha]
            unfold chAt at hc
            split at hc
            · rename_i h0; have := inB_f.1 hc; exact ⟨by omega, .inl h0⟩
            · unfold nameCh at hc
              rw [Bool.or_eq_false_iff] at hc
              have h1 := inB_f.1 hc.1; have h2 := inB_f.1 hc.2
              exact ⟨by omega, by omega⟩
          · have := (decode_high s k hlt (by omega)).1
            exact ⟨by omega, by omega⟩
        have hle := decode_le s k
        obtain ⟨r, hr⟩ : ∃ r, (Utf8.decode s k).1 = r := ⟨_, rfl⟩
        obtain ⟨dd, hd⟩ : ∃ d, (Utf8.decode s k).2 = d := ⟨_, rfl⟩
        rw [hr] at hx key hle
        rw [hd] at hx
        clear hr hd hc
        obtain ⟨k1, k2⟩ := key
        have fin : ∀ W, W = w.iter s (k + dd) → Ext w W := fun W h => h ▸ ext_iter _ _ _
        by_cases c0 : k = 0
        · have d0 : ((k : Int) == 0) = true := by simp [c0]
          have C0 := Lib.hid c0
          clear c0
          rcases k1 with c1 | c1
          · have d1 : (r : Int) < 97 := by omega
            go_wp2
            go_ret
            exact ⟨ret_b Hf.out.symm, ext_iter _ _ _⟩
          · have d1 : ¬ ((r : Int) < 97) := by omega
            have d2 : (122 : Int) < r := by omega
            go_wp2
            go_ret
            exact ⟨ret_b Hf.out.symm, ext_iter _ _ _⟩
        · have d0 : ((k : Int) == 0) = false := by simp; omega
          rcases k1 with c1 | c1
          · have d1 : (r : Int) < 97 := by omega
            by_cases c2 : r < 48
            · have d2 : (r : Int) < 48 := by omega
              go_wp2
              go_ret
              exact ⟨ret_b Hf.out.symm, ext_iter _ _ _⟩
            · have d2 : ¬ ((r : Int) < 48) := by omega
              have d3 : (57 : Int) < r := by omega
              go_wp2
              go_ret
              exact ⟨ret_b Hf.out.symm, ext_iter _ _ _⟩
          · have d1 : ¬ ((r : Int) < 97) := by omega
            have d2 : (122 : Int) < r := by omega
            have d3 : ¬ ((r : Int) < 48) := by omega
            have d4 : (57 : Int) < r := by omega
            go_wp2
            go_ret
            exact ⟨ret_b Hf.out.symm, ext_iter _ _ _⟩
    · obtain rfl : k = s.size := by omega
      have hx := run_next_end (P := Tryz.prog) w s s.size 0 (by omega)
      have hEi := ext_iter w s s.size
      obtain ⟨Wl, hWl⟩ : ∃ W, W = w.iter s s.size := ⟨_, rfl⟩
      have hr : isName s = inB s.size 1 16 := by
        cases hz : inB s.size 1 16 with
        | true => exact isName_good hz (fun j hj => Hn.out j hj hj)
        | false => exact isName_nil hz
      have Hr := Lib.hid hr
      clear hr
      rw [← hWl] at hEi hx ⊢
      clear hWl
      go_wp2_with (first | ((with_reducible refine q_bsI (d := some 31) (n := (s.size : Int)) ?_ ?_); rfl; intro W31 g31 hE31 hB31 hg31; replace hEi := hEi.trans hE31; have hI := (OwnI.of_blk (B := 0) hB31 (Nat.zero_le _)).ints) | (go_at_call 98; ((with_reducible refine (clsout_any 1 16 _ [(s.size : Int)] _ hI).mono ?_); rintro e Wc ⟨rfl, hEc⟩; replace hEi := hEi.trans hEc)))
      go_ret
      exact ⟨ret_b (by rw [Hr.out]), hEi⟩
end Go.Bp
end
