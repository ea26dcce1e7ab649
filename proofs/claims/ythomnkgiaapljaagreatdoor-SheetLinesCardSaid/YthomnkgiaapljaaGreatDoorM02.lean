/- Texts R8 Spec4 R9 R10 Spec5 R11 Spec6 of the proof, merged: contracts of functions of chapter 10, of the program and of the reference, and plain laws. -/
import Derived.Test.YthomnkgiaapljaaGreatDoorM01
section
set_option maxRecDepth 100000
set_option linter.unusedSimpArgs false
set_option linter.unusedVariables false
namespace Go.Bp
open Go.RowKit Go.Proofs
set_option maxHeartbeats 1000000 in
theorem RWhole_any (cv lv : Value) (c : Code) (l : List Int) (w : World) (h : CodeV w cv c) (hl : Ints w lv l) :
    Calls Tryz.prog 62 #[cv, lv] w fun e w' => e = .returned (.int .i64 (c.whole l)) ∧ Ext w w' := by
  obtain ⟨fv, mv, rfl, hF, hM, hW⟩ := h
  obtain ⟨A, cp, rfl, h1, h2, h3, h4⟩ := hl
  unfold maxLen at h2
  clear h3
  have hE := Ext.refl w
  have HW := Lib.hid hW
  clear hW
  by_cases hc : c.check.2.2 = 0
  · have hok := Code.ok_of_check hc
    have t1 := hok.thing1
    have t9 := hok.thing9
    have hbF : c.faults.length ≤ 1000000 ∧ c.man.length ≤ 1000000 := by have := hok.nf2; have := hok.nm; omega
    have HbF := Lib.hid hbF
    have hwr : IntKind.i64.wrap ((c.things : Int) - 1) = c.things - 1 := IntWalk.i64_in _ (by omega)
    have Hc := Lib.hid hc
    clear hbF hok
    by_cases hin : inB l.length 1 12 = true
    · have hz := inB_t.1 hin
      obtain ⟨hz1, hz2⟩ := hz
      go_enter Tryz.func62, Tryz.ntmps62
      go_wp2_with (first | ((go_at_call 56; refine (in_any _ _ _ _).mono ?_; rintro e w' ⟨rfl, rfl⟩)) | (go_at_call 18; ((with_reducible refine (RCheck_any _ c _ (by exact CodeV.of hF hM HW.out)).mono ?_); rintro e WcC ⟨rfl, hEcC⟩; (try replace hEcC := Ext.undrew hEcC); (try replace hE := hE.trans hEcC); (try replace hF := hF.ext hEcC); (try replace hM := hM.ext hEcC); (try replace hB2 := hB2.ext hEcC); (try replace hb2_0 := Ext.cell_some hEcC hb2_0); (try replace hb2_1 := Ext.cell_some hEcC hb2_1); (try replace hb2_2 := Ext.cell_some hEcC hb2_2))) | ((with_reducible refine q_box (d := some 2) ?_); intro W2 g2 hE2 hB2 hg2; simp [Act.eval, Act.put, Value.cells] at hB2; (try replace hE := hE.trans hE2); (try replace hF := hF.ext hE2); (try replace hM := hM.ext hE2); (try replace hB2 := hB2.ext hE2); (try replace hb2_0 := Ext.cell_some hE2 hb2_0); (try replace hb2_1 := Ext.cell_some hE2 hb2_1); (try replace hb2_2 := Ext.cell_some hE2 hb2_2); have hb2_0 := hB2.cell 0; have hb2_1 := hB2.cell 1; have hb2_2 := hB2.cell 2; simp at hb2_0 hb2_1 hb2_2; clear hE2))
      go_loopw [7, 8] (fun e i wr => Ext WcC wr ∧ ∃ (k : Nat) (ev : Int), k ≤ l.length ∧ i = .int .i64 k ∧ e = .int .i64 ev ∧ ((ev = 0 ∧ ∀ x ∈ l.take k, inB x 0 (c.things - 1) = true) ∨ (ev = 4 ∧ c.whole l = 4))) (fun _ i _ => l.length - (intOf i).toNat)
      case atStart => exact ⟨Ext.refl _, 0, 0, by omega, rfl, rfl, .inl ⟨rfl, by simp⟩⟩
      case round =>
        obtain ⟨hEr, k, ev, hk, rfl, rfl, ho⟩ := hrel
        (try replace hE := hE.trans hEr); (try replace hF := hF.ext hEr); (try replace hM := hM.ext hEr); (try replace hB2 := hB2.ext hEr); (try replace hb2_0 := Ext.cell_some hEr hb2_0); (try replace hb2_1 := Ext.cell_some hEr hb2_1); (try replace hb2_2 := Ext.cell_some hEr hb2_2)
        rcases ho with ⟨rfl, hall⟩ | ⟨rfl, hw4⟩
        · have Ha := Lib.hid hall
          clear hall
          by_cases hlt : k < l.length
          · obtain ⟨ad, rfl, hcl⟩ := h4 (by omega)
            replace hcl := (hcl.ext hE).i hlt
            clear h4
            by_cases hb : inB l[k] 0 (c.things - 1) = true
            · go_wp2_with fail
              go_region_held3 (fun w' => w'.cell? ⟨g2, 0, none⟩ = some (fv) ∧ w'.cell? ⟨g2, 1, none⟩ = some (mv) ∧ w'.cell? ⟨g2, 2, none⟩ = some (.int .i64 c.all) ∧ w'.cell? (ad.add k) = some (.int .i64 l[k])) (simp [*]) ((first | (go_at_call 97; ((with_reducible refine (things_any _ c _ (by first | exact CodeV.of hF hM HW.out | exact (CodeV.of hF hM HW.out).d) HbF.out).mono ?_); rintro e Wc2 ⟨rfl, hEc2⟩; (try replace hEc2 := Ext.undrew hEc2); (try replace hE := hE.trans hEc2); (try replace hEr := hEr.trans hEc2); (try replace hF := hF.ext hEc2); (try replace hM := hM.ext hEc2); (try replace hB2 := hB2.ext hEc2); (try replace hb2_0 := Ext.cell_some hEc2 hb2_0); (try replace hb2_1 := Ext.cell_some hEc2 hb2_1); (try replace hb2_2 := Ext.cell_some hEc2 hb2_2); (try replace hcl := Ext.cell_some hEc2 hcl))) | ((go_at_call 56; refine (in_any _ _ _ _).mono ?_; rintro e w' ⟨rfl, rfl⟩))))
              go_wp2
              go_roundw
              case rel => exact ⟨hEr, k + 1, 0, by omega, by go_num, rfl, .inl ⟨rfl, fun x hx => by
                rw [take_snoc _ hlt] at hx
                rcases List.mem_append.1 hx with h | h
                · exact Ha.out x h
                · simp at h; rw [h]; exact hb⟩⟩
              case measure => simp [intOf]; omega
            · simp only [Bool.not_eq_true] at hb
              have hw4 := Code.whole_4 Hc.out hin hlt hb
              have Hw4 := Lib.hid hw4
              clear hw4
              go_wp2_with fail
              go_region_held3 (fun w' => w'.cell? ⟨g2, 0, none⟩ = some (fv) ∧ w'.cell? ⟨g2, 1, none⟩ = some (mv) ∧ w'.cell? ⟨g2, 2, none⟩ = some (.int .i64 c.all) ∧ w'.cell? (ad.add k) = some (.int .i64 l[k])) (simp [*]) ((first | (go_at_call 97; ((with_reducible refine (things_any _ c _ (by first | exact CodeV.of hF hM HW.out | exact (CodeV.of hF hM HW.out).d) HbF.out).mono ?_); rintro e Wc3 ⟨rfl, hEc3⟩; (try replace hEc3 := Ext.undrew hEc3); (try replace hE := hE.trans hEc3); (try replace hEr := hEr.trans hEc3); (try replace hF := hF.ext hEc3); (try replace hM := hM.ext hEc3); (try replace hB2 := hB2.ext hEc3); (try replace hb2_0 := Ext.cell_some hEc3 hb2_0); (try replace hb2_1 := Ext.cell_some hEc3 hb2_1); (try replace hb2_2 := Ext.cell_some hEc3 hb2_2); (try replace hcl := Ext.cell_some hEc3 hcl))) | ((go_at_call 56; refine (in_any _ _ _ _).mono ?_; rintro e w' ⟨rfl, rfl⟩))))
              go_wp2
              go_roundw
              case rel => exact ⟨hEr, k + 1, 4, by omega, by go_num, rfl, .inr ⟨rfl, Hw4.out⟩⟩
              case measure => simp [intOf]; omega
          · go_wp2
            go_ret
            obtain rfl : k = l.length := by omega
            refine ⟨ret_i (Code.whole_0 Hc.out hin fun x hx => Ha.out x (by rwa [List.take_length])).symm, hE⟩
        · have Hw4 := Lib.hid hw4
          clear hw4 h4
          by_cases hlt : k < l.length
          · go_wp2
            go_ret
            exact ⟨ret_i Hw4.out.symm, hE⟩
          · go_wp2
            go_ret
            exact ⟨ret_i Hw4.out.symm, hE⟩
    · simp only [Bool.not_eq_true] at hin
      have hw3 := Code.whole_3 Hc.out hin
      have Hw3 := Lib.hid hw3
      clear hw3
      go_enter Tryz.func62, Tryz.ntmps62
      go_wp2_with (first | ((go_at_call 56; refine (in_any _ _ _ _).mono ?_; rintro e w' ⟨rfl, rfl⟩)) | (go_at_call 18; ((with_reducible refine (RCheck_any _ c _ (by exact CodeV.of hF hM HW.out)).mono ?_); rintro e WcC ⟨rfl, hEcC⟩; (try replace hEcC := Ext.undrew hEcC); (try replace hE := hE.trans hEcC); (try replace hEr := hEr.trans hEcC); (try replace hF := hF.ext hEcC); (try replace hM := hM.ext hEcC); (try replace hB2 := hB2.ext hEcC); (try replace hb2_0 := Ext.cell_some hEcC hb2_0); (try replace hb2_1 := Ext.cell_some hEcC hb2_1); (try replace hb2_2 := Ext.cell_some hEcC hb2_2); (try replace hcl := Ext.cell_some hEcC hcl))) | ((with_reducible refine q_box (d := some 2) ?_); intro W2 g2 hE2 hB2 hg2; simp [Act.eval, Act.put, Value.cells] at hB2; (try replace hE := hE.trans hE2); (try replace hEr := hEr.trans hE2); (try replace hF := hF.ext hE2); (try replace hM := hM.ext hE2); (try replace hB2 := hB2.ext hE2); (try replace hb2_0 := Ext.cell_some hE2 hb2_0); (try replace hb2_1 := Ext.cell_some hE2 hb2_1); (try replace hb2_2 := Ext.cell_some hE2 hb2_2); (try replace hcl := Ext.cell_some hE2 hcl); have hb2_0 := hB2.cell 0; have hb2_1 := hB2.cell 1; have hb2_2 := hB2.cell 2; simp at hb2_0 hb2_1 hb2_2; clear hE2))
      go_loopw [7, 8] (fun e i wr => Ext WcC wr ∧ ∃ (k : Nat), k ≤ l.length ∧ i = .int .i64 k ∧ e = .int .i64 3) (fun _ i _ => l.length - (intOf i).toNat)
      case atStart => exact ⟨Ext.refl _, 0, by omega, rfl, rfl⟩
      case round =>
        obtain ⟨hEr, k, hk, rfl, rfl⟩ := hrel
        (try replace hE := hE.trans hEr); (try replace hF := hF.ext hEr); (try replace hM := hM.ext hEr); (try replace hB2 := hB2.ext hEr); (try replace hb2_0 := Ext.cell_some hEr hb2_0); (try replace hb2_1 := Ext.cell_some hEr hb2_1); (try replace hb2_2 := Ext.cell_some hEr hb2_2); (try replace hcl := Ext.cell_some hEr hcl)
        by_cases hlt : k < l.length
        · go_wp2
          go_ret
          exact ⟨ret_i Hw3.out.symm, hE⟩
        · go_wp2
          go_ret
          exact ⟨ret_i Hw3.out.symm, hE⟩
  · have q1 : (c.check.2.2 == 0) = false := by simp [hc]
    have hwe := Code.whole_e (l := l) hc
    have Hwe := Lib.hid hwe
    clear hwe hc
    go_enter Tryz.func62, Tryz.ntmps62
    go_wp2_with (first | ((go_at_call 56; refine (in_any _ _ _ _).mono ?_; rintro e w' ⟨rfl, rfl⟩)) | (go_at_call 18; ((with_reducible refine (RCheck_any _ c _ (by exact CodeV.of hF hM HW.out)).mono ?_); rintro e WcC ⟨rfl, hEcC⟩; (try replace hEcC := Ext.undrew hEcC); (try replace hE := hE.trans hEcC); (try replace hEr := hEr.trans hEcC); (try replace hEr := hEr.trans hEcC); (try replace hF := hF.ext hEcC); (try replace hM := hM.ext hEcC); (try replace hB2 := hB2.ext hEcC); (try replace hb2_0 := Ext.cell_some hEcC hb2_0); (try replace hb2_1 := Ext.cell_some hEcC hb2_1); (try replace hb2_2 := Ext.cell_some hEcC hb2_2); (try replace hcl := Ext.cell_some hEcC hcl))) | ((with_reducible refine q_box (d := some 2) ?_); intro W2 g2 hE2 hB2 hg2; simp [Act.eval, Act.put, Value.cells] at hB2; (try replace hE := hE.trans hE2); (try replace hEr := hEr.trans hE2); (try replace hEr := hEr.trans hE2); (try replace hF := hF.ext hE2); (try replace hM := hM.ext hE2); (try replace hB2 := hB2.ext hE2); (try replace hb2_0 := Ext.cell_some hE2 hb2_0); (try replace hb2_1 := Ext.cell_some hE2 hb2_1); (try replace hb2_2 := Ext.cell_some hE2 hb2_2); (try replace hcl := Ext.cell_some hE2 hcl); have hb2_0 := hB2.cell 0; have hb2_1 := hB2.cell 1; have hb2_2 := hB2.cell 2; simp at hb2_0 hb2_1 hb2_2; clear hE2))
    go_loopw [7, 8] (fun e i wr => Ext WcC wr ∧ ∃ (k : Nat), k ≤ l.length ∧ i = .int .i64 k ∧ e = .int .i64 c.check.2.2) (fun _ i _ => l.length - (intOf i).toNat)
    case atStart => exact ⟨Ext.refl _, 0, by omega, rfl, rfl⟩
    case round =>
      obtain ⟨hEr, k, hk, rfl, rfl⟩ := hrel
      (try replace hE := hE.trans hEr); (try replace hF := hF.ext hEr); (try replace hM := hM.ext hEr); (try replace hB2 := hB2.ext hEr); (try replace hb2_0 := Ext.cell_some hEr hb2_0); (try replace hb2_1 := Ext.cell_some hEr hb2_1); (try replace hb2_2 := Ext.cell_some hEr hb2_2); (try replace hcl := Ext.cell_some hEr hcl)
      by_cases hlt : k < l.length
      · go_wp2
        go_ret
        exact ⟨ret_i Hwe.out.symm, hE⟩
      · go_wp2
        go_ret
        exact ⟨ret_i Hwe.out.symm, hE⟩
end Go.Bp
end
section
/- Plain Lean: counting. -/
namespace Go.Bp
open Go.RowKit
/-- The tally of a list, as cells. -/
def cntArr (n : Nat) (l : List Int) : Array Value := ((List.range n).map fun i => Value.int .i64 (Code.cnt l i : Int)).toArray
theorem cntArr_size (n : Nat) (l : List Int) : (cntArr n l).size = n := by simp [cntArr]
theorem cntArr_nil (n : Nat) : cntArr n [] = Array.replicate n (.int .i64 0) := by
  apply Array.ext
  · simp [cntArr]
  · intro i h1 h2; simp [cntArr, Code.cnt]
theorem cntArr_get {n : Nat} (l : List Int) {i : Nat} (h : i < n) : (cntArr n l)[i]? = some (.int .i64 (Code.cnt l i : Int)) := by simp [cntArr, h]
theorem cntArr_snoc {n : Nat} (l : List Int) {j : Nat} (_h : j < n) : (cntArr n l).setIfInBounds j (.int .i64 ((Code.cnt l j : Int) + 1)) = cntArr n (l ++ [(j : Int)]) := by
  apply Array.ext
  · simp [cntArr]
  · intro i h1 h2
    simp only [cntArr, Array.size_setIfInBounds, List.size_toArray, List.length_map, List.length_range] at h1
    simp only [cntArr, List.getElem_toArray, List.getElem_map, List.getElem_range]
    rw [Code.cnt_snoc]
    by_cases e : j = i
    · subst e; simp
    · have : ¬ (j : Int) = (i : Int) := by omega
      simp [e, this]
namespace Code
variable {c : Code}
theorem passed_no {l : List Int} {i : Nat} (hi : i < c.things) (h : c.fine l i = false) : c.passed l = false := by
  unfold passed
  have : (List.range c.things).all (c.fine l) = false := by
    rw [List.all_eq_false]; exact ⟨i, by simpa using hi, by simp [h]⟩
  simp [this]
theorem passed_fine {l : List Int} (h : ∀ i, i < c.things → c.fine l i = true) : c.passed l = decide (c.total l ≤ c.all) := by
  unfold passed
  have : (List.range c.things).all (c.fine l) = true := by
    rw [List.all_eq_true]; intro i hi; exact h i (by simpa using hi)
  simp [this]
theorem fine_f {l : List Int} {i : Nat} (hi : i < c.faults.length) : c.fine l i = decide ((cnt l i : Int) ≤ c.faults[i].limit) := by simp [fine, hi, limitAt]
theorem fine_m {l : List Int} {i : Nat} (hi : ¬ i < c.faults.length) : c.fine l i = (cnt l i != 0) := by simp [fine, hi]
end Code

/-- Is a line with this number among the first ones? -/
def keptB (l : List Line) (n : Int) : Bool := l.any fun x => decide (x.no = n)
theorem keptB_snoc (l : List Line) (n : Int) {k : Nat} (hk : k < l.length) : keptB (l.take (k + 1)) n = (keptB (l.take k) n || decide (l[k].no = n)) := by
  rw [take_snoc _ hk]; simp only [keptB, List.any_append]; simp
def lostTo (l : List Line) (k : Nat) : List Int := (numbers k).filter fun n => !(keptB l n)
theorem lostTo_succ (l : List Line) (k : Nat) : lostTo l (k + 1) = if keptB l ((k : Int) + 1) = true then lostTo l k else lostTo l k ++ [((k : Int) + 1)] := by
  unfold lostTo
  rw [numbers_succ, List.filter_append]
  by_cases h : keptB l ((k : Int) + 1) = true <;> simp [h]
theorem lostTo_len (l : List Line) (k : Nat) : (lostTo l k).length ≤ k := by
  unfold lostTo
  have := List.length_filter_le (fun n => !(keptB l n)) (numbers k)
  rw [numbers_len] at this; exact this
theorem lost_eq (s : Sheet) : s.lost = lostTo s.kept s.lines.toNat := rfl
theorem rising_at (p : Int → Bool) (l : List Int) {k : Nat} (hk : k < l.length) :
    risingFrom p (prevAt l k) (l.drop k) = if p l[k] = false then 4 else if (prevAt l k).any (fun y => decide (l[k] ≤ y)) = true then 2 else risingFrom p (prevAt l (k + 1)) (l.drop (k + 1)) := by
  rw [rising_step p l k hk]
  have : prevAt l (k + 1) = some l[k] := by simp [prevAt, hk]
  rw [this]
theorem prevAt_zero (l : List Int) : prevAt l 0 = none := rfl
theorem prevAt_pos (l : List Int) {k : Nat} (h0 : 0 < k) (hk : k < l.length) : prevAt l k = some l[k - 1] := by
  have : k ≠ 0 := by omega
  have h2 : k - 1 < l.length := by omega
  simp [prevAt, this, h2]
theorem prevNo_pos (l : List Line) {k : Nat} (h0 : 0 < k) (hk : k < l.length) : prevNo l k = some l[k - 1].no := by
  have : k ≠ 0 := by omega
  have h2 : k - 1 < l.length := by omega
  simp [prevNo, this, h2]
end Go.Bp
end
section
set_option maxRecDepth 100000
set_option linter.unusedSimpArgs false
set_option linter.unusedVariables false
namespace Go.Bp
open Go.RowKit Go.Proofs
theorem Total_ok (cv lv : Value) (c : Code) (l : List Int) (w : World) (h : CodeV w cv c) (hl : Ints w lv l) (ho : c.Ok) (ht : c.TestOk l) :
    Calls Tryz.prog 63 #[cv, lv] w fun e w' => e = .returned (.int .i64 (c.total l)) ∧ Ext w w' :=
  Total_t cv lv c l w h hl (fun x hx => (ht.2 x hx).1) (fun k hk => by
    have := ho.total_le (l.take k)
    have h1 := ht.1
    rw [List.length_take] at this
    omega)
theorem size3 : (Tryz.prog.info? 3).map TypeInfo.size = some 1 := by kernel_rfl
set_option maxHeartbeats 2000000 in
theorem RPassed_any (cv lv : Value) (c : Code) (l : List Int) (w : World) (h : CodeV w cv c) (hl : Ints w lv l) (ho : c.Ok) (ht : c.TestOk l) :
    Calls Tryz.prog 51 #[cv, lv] w fun e w' => e = .returned (.bool (c.passed l)) ∧ Ext w w' := by
  obtain ⟨fv, mv, rfl, hF, hM, hW⟩ := h
  have hL := hl
  obtain ⟨A, cp, rfl, h1, h2, h3, h4⟩ := hl
  obtain ⟨A2, cp2, rfl, h12, h22, h32, h42⟩ := hF
  have hF : Faults w (.slice A2 c.faults.length cp2) c.faults := ⟨A2, cp2, rfl, h12, h22, h32, h42⟩
  unfold maxLen at h2 h22
  clear h3 h32
  have hE := Ext.refl w
  have HW := Lib.hid hW
  have t1 := ho.thing1
  have t9 := ho.thing9
  have hn6 := ho.nf2
  have hl12 := ht.1
  have hbF : c.faults.length ≤ 1000000 ∧ c.man.length ≤ 1000000 := by have := ho.nf2; have := ho.nm; omega
  have HbF := Lib.hid hbF
  have Ho := Lib.hid ho
  have Ht := Lib.hid ht
  have hth : c.things = c.faults.length + c.man.length := rfl
  have Hth := Lib.hid hth
  clear hW hbF ho ht hth
  go_enter Tryz.func51, Tryz.ntmps51
  go_wp2_with (first | (go_at_call 97; ((with_reducible refine (things_any _ c _ (by exact CodeV.of hF hM HW.out) HbF.out).mono ?_); rintro e WcT ⟨rfl, hEcT⟩; (try replace hEcT := Ext.undrew hEcT); (try replace hE := hE.trans hEcT); (try replace hF := hF.ext hEcT); (try replace hM := hM.ext hEcT); (try replace hL := hL.ext hEcT); (try replace hB2 := hB2.ext hEcT); (try replace hb2_0 := Ext.cell_some hEcT hb2_0); (try replace hb2_1 := Ext.cell_some hEcT hb2_1); (try replace hb2_2 := Ext.cell_some hEcT hb2_2))) | (((with_reducible refine q_make (d := some 11) Tryz.underlying26 ti3 rfl (n := c.things) (by omega) (by omega) ?_ ?_ ?_); rfl; rfl; intro WM gM hEM hBM hgM; rw [← cntArr_nil] at hBM)) | ((with_reducible refine q_box (d := some 2) ?_); intro W2 g2 hE2 hB2 hg2; simp [Act.eval, Act.put, Value.cells] at hB2; (try replace hE := hE.trans hE2); (try replace hF := hF.ext hE2); (try replace hM := hM.ext hE2); (try replace hL := hL.ext hE2); (try replace hB2 := hB2.ext hE2); (try replace hb2_0 := Ext.cell_some hE2 hb2_0); (try replace hb2_1 := Ext.cell_some hE2 hb2_1); (try replace hb2_2 := Ext.cell_some hE2 hb2_2); have hb2_0 := hB2.cell 0; have hb2_1 := hB2.cell 1; have hb2_2 := hB2.cell 2; simp at hb2_0 hb2_1 hb2_2; clear hE2))
  go_loopw [6, 7] (fun i _ wr => Ext WcT wr ∧ ∃ k : Nat, k ≤ l.length ∧ i = .int .i64 k ∧ Blk wr gM 3 (cntArr c.things (l.take k))) (fun i _ _ => l.length - (intOf i).toNat)
  case atStart => exact ⟨hEM, 0, by omega, rfl, by simpa using hBM⟩
  case round =>
    obtain ⟨hEr, k, hk, rfl, hBk⟩ := hrel
    have hgs : WcT.heap.size ≤ wr.heap.size := hEr.size
    clear hBM
    by_cases hlt : k < l.length
    · obtain ⟨ad, rfl, hc⟩ := h4 (by omega)
      obtain ⟨hj0, hj1⟩ := Ht.out.at hlt
      obtain ⟨j, hj⟩ := Int.eq_ofNat_of_zero_le hj0
      have hjt : j < c.things := by omega
      have e1 := ((hc.ext hE).ext hEr).i hlt
      rw [hj] at e1
      have e2 := hBk.cell j
      rw [cntArr_get _ hjt] at e2
      have hcn := Code.cnt_le (l.take k) j
      have hcn2 : Code.cnt (l.take k) j ≤ 12 := by rw [List.length_take] at hcn; omega
      have hs := cntArr_snoc (n := c.things) (l.take k) hjt
      rw [← hj, ← take_snoc _ hlt] at hs
      have Hs := Lib.hid hs
      have Hsz := Lib.hid (cntArr_size c.things (l.take k))
      clear hs h4 hc hcn hj hj0 hj1
      go_wp2_with ((with_reducible refine q_store1 (d := none) (off := j) (v := .int .i64 ((Code.cnt (l.take k) j : Int) + 1)) ?_ ?_ hBk size3 ?_ ?_ ?_ ?_); rfl; rfl; rfl; (rw [Hsz.out]; exact hjt); rfl; intro WS hBS hgr; replace hEr := below_grown hEr hgr hgM hgs)
      go_roundw
      case rel => exact ⟨hEr, k + 1, by omega, by go_num, by rw [← Hs.out]; exact hBS⟩
      case measure => simp [intOf]; omega
    · obtain rfl : k = l.length := by omega
      rw [List.take_length] at hBk
      have hgW : Ext w wr := hE.trans hEr
      have kF := h42
      replace hF := hF.ext hEr
      replace hM := hM.ext hEr
      replace hL := hL.ext hEr
      replace hb2_0 := Ext.cell_some hEr hb2_0
      replace hb2_1 := Ext.cell_some hEr hb2_1
      replace hb2_2 := Ext.cell_some hEr hb2_2
      clear hE hB2
      go_wp2
      obtain ⟨Wl, hWl⟩ : ∃ W, W = wr := ⟨_, rfl⟩
      subst hWl
      go_loopw [8] (fun i wr => Ext Wl wr ∧ ∃ k : Nat, k ≤ c.things ∧ i = .int .i64 k ∧ ∀ j, j < k → c.fine l j = true) (fun i _ => c.things - (intOf i).toNat)
      case atStart => exact ⟨Ext.refl _, 0, by omega, rfl, by omega⟩
      case round =>
        obtain ⟨hEs, k, hk, rfl, hfi⟩ := hrel
        have Hfi := Lib.hid hfi
        clear hfi h4
        have hE := hgW.trans hEs
        replace hF := hF.ext hEs
        replace hM := hM.ext hEs
        replace hL := hL.ext hEs
        replace hb2_0 := Ext.cell_some hEs hb2_0
        replace hb2_1 := Ext.cell_some hEs hb2_1
        replace hb2_2 := Ext.cell_some hEs hb2_2
        by_cases hlt : k < c.things
        · have e2 := (hBk.ext hEs).cell k
          rw [cntArr_get _ hlt] at e2
          clear hBk
          by_cases hkf : k < c.faults.length
          · obtain ⟨ad2, rfl, hc2⟩ := kF (by omega)
            have e3 := (hc2.ext hE).f2 hkf
            have d1 : decide (c.faults.length ≤ k) = false := by simp; omega
            have d2 : decide (k < c.faults.length) = true := by simp; omega
            by_cases hf : (Code.cnt l k : Int) ≤ c.faults[k].limit
            · have d3 : decide (c.faults[k].limit < (Code.cnt l k : Int)) = false := by simp; omega
              have hfine : c.fine l k = true := by rw [Code.fine_f hkf]; simp; exact hf
              have Hfine := Lib.hid hfine
              clear hfine kF hc2
              go_wp2_with fail
              go_quiet (fail)
              go_wp2
              go_roundw
              case rel => exact ⟨hEs.drewN _, k + 1, by omega, by go_num, fun j hj => by by_cases e : j = k; · rw [e]; exact Hfine.out
                                                                                         · exact Hfi.out j (by omega)⟩
              case measure => simp [intOf]; omega
            · have d3 : decide (c.faults[k].limit < (Code.cnt l k : Int)) = true := by simp; omega
              have hfine : c.fine l k = false := by rw [Code.fine_f hkf]; simp; omega
              have Hfine := Lib.hid (Code.passed_no hlt hfine)
              clear hfine kF hc2
              go_wp2_with fail
              go_quiet (fail)
              go_wp2
              go_ret
              exact ⟨ret_b Hfine.out.symm, hE.drewN _⟩
          · have d1 : decide (c.faults.length ≤ k) = true := by simp; omega
            have d2 : decide (k < c.faults.length) = false := by simp; omega
            clear kF
            by_cases hf : Code.cnt l k = 0
            · have d3 : ((Code.cnt l k : Int) == 0) = true := by simp [hf]
              have hfine : c.fine l k = false := by rw [Code.fine_m hkf]; simp [hf]
              have Hfine := Lib.hid (Code.passed_no hlt hfine)
              clear hfine hf
              go_wp2_with fail
              go_quiet (fail)
              go_wp2
              go_ret
              exact ⟨ret_b Hfine.out.symm, hE.drewN _⟩
            · have d3 : ((Code.cnt l k : Int) == 0) = false := by simp; omega
              have hfine : c.fine l k = true := by rw [Code.fine_m hkf]; simp [hf]
              have Hfine := Lib.hid hfine
              clear hfine
              go_wp2_with fail
              go_quiet (fail)
              go_wp2
              go_roundw
              case rel => exact ⟨hEs.drewN _, k + 1, by omega, by go_num, fun j hj => by by_cases e : j = k; · rw [e]; exact Hfine.out
                                                                                         · exact Hfi.out j (by omega)⟩
              case measure => simp [intOf]; omega
        · obtain rfl : k = c.things := by omega
          have hpf := Code.passed_fine (c := c) (l := l) (fun j hj => Hfi.out j hj)
          have Hpf := Lib.hid hpf
          clear hpf
          go_wp2_with fail
          go_region_held3 (fun w' => w'.cell? ⟨g2, 0, none⟩ = some (Value.slice A2 c.faults.length cp2) ∧ w'.cell? ⟨g2, 1, none⟩ = some (mv) ∧ w'.cell? ⟨g2, 2, none⟩ = some (.int .i64 c.all)) (simp [*]) ((first | (go_at_call 63; ((with_reducible refine (Total_ok _ _ c l _ (by first | exact CodeV.of hF hM HW.out | exact (CodeV.of hF hM HW.out).d) (by first | exact hL | exact (hL).d) Ho.out Ht.out).mono ?_); rintro e Wc2 ⟨rfl, hEc2⟩; (try replace hEc2 := Ext.undrew hEc2); (try replace hE := hE.trans hEc2); (try replace hB2 := hB2.ext hEc2); (try replace hF := hF.ext hEc2); (try replace hM := hM.ext hEc2); (try replace hL := hL.ext hEc2); (try replace hb2_0 := Ext.cell_some hEc2 hb2_0); (try replace hb2_1 := Ext.cell_some hEc2 hb2_1); (try replace hb2_2 := Ext.cell_some hEc2 hb2_2)))))
          go_wp2
          go_ret
          exact ⟨ret_b Hpf.out.symm, hE⟩
end Go.Bp
end
section
set_option maxRecDepth 100000
set_option linter.unusedSimpArgs false
set_option linter.unusedVariables false
namespace Go.Bp
open Go.RowKit Go.Proofs
def RetIBI (w : World) (x : Int × Bool × Int) (e : Ending) (w' : World) : Prop := e = .returned (.tuple #[.int .i64 x.1, .bool x.2.1, .int .i64 x.2.2]) ∧ Ext w w'
theorem retIBI_of {a c : Int} {b : Bool} {x : Int × Bool × Int} (h : x = (a, b, c)) : Ending.returned (.tuple #[.int .i64 a, .bool b, .int .i64 c]) = .returned (.tuple #[.int .i64 x.1, .bool x.2.1, .int .i64 x.2.2]) := by rw [h]
set_option maxHeartbeats 1000000 in
theorem RJudge_any (cv lv : Value) (c : Code) (l : List Int) (w : World) (h : CodeV w cv c) (hl : Ints w lv l) : Calls Tryz.prog 20 #[cv, lv] w (RetIBI w (c.judge l)) := by
  obtain ⟨fv, mv, rfl, hF, hM, hW⟩ := h
  have hE := Ext.refl w
  have HW := Lib.hid hW
  clear hW
  by_cases hc : c.whole l = 0
  · have Hz := Lib.hid (Code.whole_zero hc)
    have hj : c.judge l = (c.total l, c.passed l, 0) := by simp [Code.judge, hc]
    have Hj := Lib.hid hj
    have q1 : (c.whole l != 0) = false := by simp [hc]
    clear hj hc
    go_enter Tryz.func20, Tryz.ntmps20
    go_wp2_with (first | (go_at_call 62; ((with_reducible refine (RWhole_any _ _ c l _ (by exact CodeV.of hF hM HW.out) (by exact hl)).mono ?_); rintro e Wc1 ⟨rfl, hEc1⟩; (try replace hEc1 := Ext.undrew hEc1); (try replace hE := hE.trans hEc1); (try replace hF := hF.ext hEc1); (try replace hM := hM.ext hEc1); (try replace hl := hl.ext hEc1); (try replace hB2 := hB2.ext hEc1); (try replace hb2_0 := Ext.cell_some hEc1 hb2_0); (try replace hb2_1 := Ext.cell_some hEc1 hb2_1); (try replace hb2_2 := Ext.cell_some hEc1 hb2_2))) | ((with_reducible refine q_box (d := some 2) ?_); intro W2 g2 hE2 hB2 hg2; simp [Act.eval, Act.put, Value.cells] at hB2; (try replace hE := hE.trans hE2); (try replace hF := hF.ext hE2); (try replace hM := hM.ext hE2); (try replace hl := hl.ext hE2); (try replace hB2 := hB2.ext hE2); (try replace hb2_0 := Ext.cell_some hE2 hb2_0); (try replace hb2_1 := Ext.cell_some hE2 hb2_1); (try replace hb2_2 := Ext.cell_some hE2 hb2_2); have hb2_0 := hB2.cell 0; have hb2_1 := hB2.cell 1; have hb2_2 := hB2.cell 2; simp at hb2_0 hb2_1 hb2_2; clear hE2))
    go_region_held3 (fun w' => w'.cell? ⟨g2, 0, none⟩ = some (fv) ∧ w'.cell? ⟨g2, 1, none⟩ = some (mv) ∧ w'.cell? ⟨g2, 2, none⟩ = some (.int .i64 c.all)) (simp [*]) ((first | (go_at_call 63; ((with_reducible refine (Total_ok _ _ c l _ (by first | exact CodeV.of hF hM HW.out | exact (CodeV.of hF hM HW.out).d) (by first | exact hl | exact (hl).d) Hz.out.1 Hz.out.2.1).mono ?_); rintro e Wc2 ⟨rfl, hEc2⟩; (try replace hEc2 := Ext.undrew hEc2); (try replace hE := hE.trans hEc2); (try replace hF := hF.ext hEc2); (try replace hM := hM.ext hEc2); (try replace hl := hl.ext hEc2); (try replace hB2 := hB2.ext hEc2); (try replace hb2_0 := Ext.cell_some hEc2 hb2_0); (try replace hb2_1 := Ext.cell_some hEc2 hb2_1); (try replace hb2_2 := Ext.cell_some hEc2 hb2_2))) | (go_at_call 51; ((with_reducible refine (RPassed_any _ _ c l _ (by first | exact CodeV.of hF hM HW.out | exact (CodeV.of hF hM HW.out).d) (by first | exact hl | exact (hl).d) Hz.out.1 Hz.out.2.1).mono ?_); rintro e Wc3 ⟨rfl, hEc3⟩; (try replace hEc3 := Ext.undrew hEc3); (try replace hE := hE.trans hEc3); (try replace hF := hF.ext hEc3); (try replace hM := hM.ext hEc3); (try replace hl := hl.ext hEc3); (try replace hB2 := hB2.ext hEc3); (try replace hb2_0 := Ext.cell_some hEc3 hb2_0); (try replace hb2_1 := Ext.cell_some hEc3 hb2_1); (try replace hb2_2 := Ext.cell_some hEc3 hb2_2)))))
    go_wp2
    go_ret3
    exact ⟨retIBI_of Hj.out, hE⟩
  · have hj : c.judge l = (0, false, c.whole l) := by simp [Code.judge, hc]
    have Hj := Lib.hid hj
    have q1 : (c.whole l != 0) = true := by simp [hc]
    clear hj hc
    go_enter Tryz.func20, Tryz.ntmps20
    go_wp2_with (first | (go_at_call 62; ((with_reducible refine (RWhole_any _ _ c l _ (by exact CodeV.of hF hM HW.out) (by exact hl)).mono ?_); rintro e Wc4 ⟨rfl, hEc4⟩; (try replace hEc4 := Ext.undrew hEc4); (try replace hE := hE.trans hEc4); (try replace hF := hF.ext hEc4); (try replace hM := hM.ext hEc4); (try replace hl := hl.ext hEc4); (try replace hB2 := hB2.ext hEc4); (try replace hb2_0 := Ext.cell_some hEc4 hb2_0); (try replace hb2_1 := Ext.cell_some hEc4 hb2_1); (try replace hb2_2 := Ext.cell_some hEc4 hb2_2))) | ((with_reducible refine q_box (d := some 2) ?_); intro W2 g2 hE2 hB2 hg2; simp [Act.eval, Act.put, Value.cells] at hB2; (try replace hE := hE.trans hE2); (try replace hF := hF.ext hE2); (try replace hM := hM.ext hE2); (try replace hl := hl.ext hE2); (try replace hB2 := hB2.ext hE2); (try replace hb2_0 := Ext.cell_some hE2 hb2_0); (try replace hb2_1 := Ext.cell_some hE2 hb2_1); (try replace hb2_2 := Ext.cell_some hE2 hb2_2); have hb2_0 := hB2.cell 0; have hb2_1 := hB2.cell 1; have hb2_2 := hB2.cell 2; simp at hb2_0 hb2_1 hb2_2; clear hE2))
    go_ret3
    exact ⟨retIBI_of Hj.out, hE⟩

set_option maxHeartbeats 1000000 in
theorem Lost_any (sv : Value) (s : Sheet) (m : Nat) (w : World) (h : SheetV w sv s) (hm : s.lines = m) (hm2 : m ≤ 1000) :
    Calls Tryz.prog 47 #[sv] w (Ret w fun v w' => OwnI w.heap.size w' v s.lost) := by
  obtain ⟨kv, rfl, ⟨A, cp, rfl, h1, h2, h3, h4⟩⟩ := h
  have hlost : s.lost = lostTo s.kept m := by rw [lost_eq, hm]; simp
  have Hlost := Lib.hid hlost
  rw [hm]
  unfold maxLen at h2
  clear h3 hlost hm
  have hE := Ext.refl w
  go_enter Tryz.func47, Tryz.ntmps47
  go_wp2_with (first | ((with_reducible refine q_box (d := some 1) ?_); intro W1 g1 hE1 hB1 hg1; simp [Act.eval, Act.put, Value.cells] at hB1; (try replace hE := hE.trans hE1); (try replace hB1 := hB1.ext hE1); (try replace hb1_0 := Ext.cell_some hE1 hb1_0); (try replace hb1_1 := Ext.cell_some hE1 hb1_1); have hb1_0 := hB1.cell 0; have hb1_1 := hB1.cell 1; simp at hb1_0 hb1_1; clear hE1))
  have hB0 := hE.size
  have k0 := hb1_0; have k1 := hb1_1
  go_loopw [3, 4] (fun v i wr => Ext W1 wr ∧ ∃ k : Nat, k ≤ m ∧ i = .int .i64 ((k : Int) + 1) ∧ OwnI W1.heap.size wr v (lostTo s.kept k)) (fun _ i _ => m + 1 - (intOf i).toNat)
  case atStart => exact ⟨Ext.refl _, 0, by omega, rfl, OwnI.nil _ _⟩
  case round =>
    obtain ⟨hEr, k, hk, rfl, hO⟩ := hrel
    replace k0 := Ext.cell_some hEr k0
    replace k1 := Ext.cell_some hEr k1
    clear hb1_0 hb1_1 hB1
    have hlen := lostTo_len s.kept k
    by_cases hlt : k < m
    · go_wp2
      obtain ⟨Wl, hWl⟩ : ∃ W, W = wr := ⟨_, rfl⟩
      subst hWl
      go_loop [5, 6] (fun b j => ∃ i : Nat, i ≤ s.kept.length ∧ j = .int .i64 i ∧ b = .bool (keptB (s.kept.take i) ((k : Int) + 1))) (fun _ j => s.kept.length - (intOf j).toNat)
      case atStart => exact ⟨0, by omega, rfl, by simp [keptB]⟩
      case round =>
        obtain ⟨i, hi, rfl, rfl⟩ := hrel
        by_cases hli : i < s.kept.length
        · obtain ⟨ad, rfl, hc⟩ := h4 (by omega)
          have e1 := ((hc.ext hE).ext hEr).l0 hli
          have hs := keptB_snoc s.kept ((k : Int) + 1) hli
          have Hs := Lib.hid hs
          clear hs h4 hc
          by_cases hb : keptB (s.kept.take i) ((k : Int) + 1) = true
          · have Hb := Lib.hid hb
            go_wp2
            go_round
            case rel => exact ⟨i + 1, by omega, by go_num, by rw [Hs.out, Hb.out]; rfl⟩
            case measure => simp [intOf]; omega
          · simp only [Bool.not_eq_true] at hb
            have Hb := Lib.hid hb
            go_wp2
            go_round
            case rel => exact ⟨i + 1, by omega, by go_num, by rw [Hs.out, Hb.out, Bool.false_or]; rfl⟩
            case measure => simp [intOf]; omega
        · obtain rfl : i = s.kept.length := by omega
          have ht : s.kept.take s.kept.length = s.kept := List.take_length
          have hn := lostTo_succ s.kept k
          clear h4
          by_cases hb : keptB s.kept ((k : Int) + 1) = true
          · rw [if_pos hb] at hn
            have Hn := Lib.hid hn
            clear hn
            go_wp2
            go_roundw
            case rel => exact ⟨hEr, k + 1, by omega, by go_num, by rw [Hn.out]; exact hO⟩
            case measure => simp [intOf]; omega
          · rw [if_neg hb] at hn
            simp only [Bool.not_eq_true] at hb
            have Hn := Lib.hid hn
            clear hn
            go_wp2_with (first | ((with_reducible refine q_bsI (d := some 35) (n := (k : Int) + 1) ?_ ?_); rfl; intro W12 g12 hE12 hB12 hg12; replace hEr := hEr.trans hE12; replace hO := hO.ext hE12) | (refine q_appI (d := some 36) rfl hO rfl hB12 (by omega) (by have := hEr.size; omega) ?_; intro v' W13 hO' hmono hgr; replace hEr := hmono _ hEr))
            go_roundw
            case rel => exact ⟨hEr, k + 1, by omega, by go_num, by rw [Hn.out]; exact hO'⟩
            case measure => simp [intOf]; omega
    · go_wp2
      go_ret
      obtain rfl : k = m := by omega
      exact ⟨_, rfl, by rw [Hlost.out]; exact hO.base hB0, hE.trans hEr⟩
end Go.Bp
end
section
/- Plain Lean: the errors of sheets. -/
namespace Go.Bp
open Go.RowKit
namespace Code
variable {c : Code} {m : Int} {prev : Option Int} {x : Line}
theorem lineErr_no (h : inB x.no 1 m = false) : c.lineErr m prev x = 7 := by unfold lineErr; rw [if_pos h]
theorem lineErr_arg (h : inB x.no 1 m = true) (h2 : prev.any (fun y => decide (x.no ≤ y)) = true) : c.lineErr m prev x = 2 := by unfold lineErr; rw [if_neg (by simp [h]), if_pos h2]
theorem lineErr_none (h : inB x.no 1 m = true) (h2 : prev.any (fun y => decide (x.no ≤ y)) = false) (h3 : inB x.what 0 (c.things - 1) = false) : c.lineErr m prev x = 4 := by
  unfold lineErr; rw [if_neg (by simp [h]), if_neg (by simp only [h2]; decide), if_pos h3]
theorem lineErr_sum (h : inB x.no 1 m = true) (h2 : prev.any (fun y => decide (x.no ≤ y)) = false) (h3 : inB x.what 0 (c.things - 1) = true) (h4 : inB x.sum 0 240 = false) : c.lineErr m prev x = 7 := by
  unfold lineErr; rw [if_neg (by simp [h]), if_neg (by simp only [h2]; decide), if_neg (by simp [h3]), if_pos h4]
theorem lineErr_ok (h : inB x.no 1 m = true) (h2 : prev.any (fun y => decide (x.no ≤ y)) = false) (h3 : inB x.what 0 (c.things - 1) = true) (h4 : inB x.sum 0 240 = true) : c.lineErr m prev x = 0 := by
  unfold lineErr; rw [if_neg (by simp [h]), if_neg (by simp only [h2]; decide), if_neg (by simp [h3]), if_neg (by simp [h4])]
end Code
namespace Sheet
variable {c : Code} {s : Sheet}
theorem err_lines (h : inB s.lines 1 12 = false) : s.err c = 7 := by unfold err; rw [if_pos h]
theorem err_line (h : inB s.lines 1 12 = true) {e : Int} (he : e ≠ 0) (h2 : c.linesErr s.lines none s.kept = e) : s.err c = e := by
  unfold err; rw [if_neg (by simp [h]), h2, if_pos he]
theorem err_long (h : inB s.lines 1 12 = true) (h2 : c.linesErr s.lines none s.kept = 0) (h3 : ¬ s.lost.length ≤ 3) : s.err c = 3 := by
  unfold err; rw [if_neg (by simp [h]), if_neg (by simp [h2]), if_neg h3]
theorem err_ok (h : inB s.lines 1 12 = true) (h2 : c.linesErr s.lines none s.kept = 0) (h3 : s.lost.length ≤ 3) : s.err c = 0 := by
  unfold err; rw [if_neg (by simp [h]), if_neg (by simp [h2]), if_pos h3]
theorem asked_e (h : c.check.2.2 ≠ 0) : s.asked c = c.check.2.2 := by unfold asked; rw [if_pos h]
theorem asked_s (h : c.check.2.2 = 0) : s.asked c = s.err c := by unfold asked; rw [if_neg (by simp [h])]
end Sheet
/-- The step of linesErr, told of a line with an error, and of one without. -/
theorem linesErr_bad {c : Code} {m : Int} {l : List Line} {k : Nat} (hk : k < l.length) {e : Int} (h : c.lineErr m (prevNo l k) l[k] = e) (he : e ≠ 0)
    (hs : c.linesErr m none l = c.linesErr m (prevNo l k) (l.drop k)) : c.linesErr m none l = e := by
  rw [hs, linesErr_step c m l hk, h, if_pos he]
theorem linesErr_good {c : Code} {m : Int} {l : List Line} {k : Nat} (hk : k < l.length) (h : c.lineErr m (prevNo l k) l[k] = 0)
    (hs : c.linesErr m none l = c.linesErr m (prevNo l k) (l.drop k)) : c.linesErr m none l = c.linesErr m (prevNo l (k + 1)) (l.drop (k + 1)) := by
  rw [hs, linesErr_step c m l hk, if_neg (by simp [h])]
theorem linesErr_end {c : Code} {m : Int} {l : List Line} (hs : c.linesErr m none l = c.linesErr m (prevNo l l.length) (l.drop l.length)) : c.linesErr m none l = 0 := by
  rw [hs, List.drop_length]; rfl
theorem rising_bad1 {p : Int → Bool} {l : List Int} {k : Nat} (hk : k < l.length) (h : p l[k] = false) (hs : rising p l = risingFrom p (prevAt l k) (l.drop k)) : rising p l = 4 := by
  rw [hs, rising_at p l hk, if_pos h]
theorem rising_bad2 {p : Int → Bool} {l : List Int} {k : Nat} (hk : k < l.length) (h : p l[k] = true) (h2 : (prevAt l k).any (fun y => decide (l[k] ≤ y)) = true) (hs : rising p l = risingFrom p (prevAt l k) (l.drop k)) : rising p l = 2 := by
  rw [hs, rising_at p l hk, if_neg (by simp [h]), if_pos h2]
theorem rising_good {p : Int → Bool} {l : List Int} {k : Nat} (hk : k < l.length) (h : p l[k] = true) (h2 : (prevAt l k).any (fun y => decide (l[k] ≤ y)) = false) (hs : rising p l = risingFrom p (prevAt l k) (l.drop k)) :
    rising p l = risingFrom p (prevAt l (k + 1)) (l.drop (k + 1)) := by
  rw [hs, rising_at p l hk, if_neg (by simp [h]), if_neg (by simp only [h2]; decide)]
theorem rising_end {p : Int → Bool} {l : List Int} (hs : rising p l = risingFrom p (prevAt l l.length) (l.drop l.length)) : rising p l = 0 := by
  rw [hs, List.drop_length]; unfold risingFrom; rfl
theorem prevAt_none {l : List Int} {k : Nat} (h : ¬ 0 < k) : prevAt l k = none := by unfold prevAt; rw [if_pos (by omega)]
theorem prevNo_none {l : List Line} {k : Nat} (h : ¬ 0 < k) : prevNo l k = none := by unfold prevNo; rw [if_pos (by omega)]
end Go.Bp
end
section
set_option maxRecDepth 100000
set_option linter.unusedSimpArgs false
set_option linter.unusedVariables false
namespace Go.Bp
open Go.RowKit Go.Proofs
set_option maxHeartbeats 1000000 in
theorem Rrising_any (lv ov : Value) (l o : List Int) (w : World) (hl : Ints w lv l) (ho : Ints w ov o) :
    Calls Tryz.prog 71 #[lv, ov] w fun e w' => e = .returned (.int .i64 (rising (hasB o) l)) ∧ Ext w w' := by
  obtain ⟨A, cp, rfl, h1, h2, h3, h4⟩ := hl
  unfold maxLen at h2
  clear h3
  have hE := Ext.refl w
  go_enter Tryz.func71, Tryz.ntmps71
  go_wp2
  go_loopw [5] (fun i wr => Ext w wr ∧ ∃ k : Nat, k ≤ l.length ∧ i = .int .i64 k ∧ rising (hasB o) l = risingFrom (hasB o) (prevAt l k) (l.drop k)) (fun i _ => l.length - (intOf i).toNat)
  case atStart => exact ⟨hE, 0, by omega, rfl, rfl⟩
  case round =>
    obtain ⟨hEr, k, hk, rfl, hs⟩ := hrel
    (try replace hE := hE.trans hEr); (try replace ho := ho.ext hEr)
    have Hs := Lib.hid hs
    clear hs
    by_cases hlt : k < l.length
    · obtain ⟨ad, rfl, hc⟩ := h4 (by omega)
      replace hc := hc.ext hEr
      have e1 := hc.i hlt
      clear h4
      by_cases p1 : hasB o l[k] = true
      · by_cases h0 : 0 < k
        · have d0 : decide (0 < k) = true := by simp; omega
          have hk1 : k - 1 < l.length := by omega
          have e2 := hc.i hk1
          have hpa := prevAt_pos l h0 hlt
          by_cases hle : l[k] ≤ l[k - 1]
          · have q1 : decide (l[k] ≤ l[k - 1]) = true := by simp [hle]
            have hr := rising_bad2 hlt p1 (by rw [hpa]; simp [hle]) Hs.out
            have Hr := Lib.hid hr
            clear hr hpa hc
            go_wp2_with (first | ((go_at_call 49; refine (Has_any _ _ _ _ ho).mono ?_; rintro e w' ⟨rfl, rfl⟩)))
            go_quiet (fail)
            go_wp2
            go_ret
            exact ⟨ret_i Hr.out.symm, hE.drewN _⟩
          · have q1 : decide (l[k] ≤ l[k - 1]) = false := by simp; omega
            have hr := rising_good hlt p1 (by rw [hpa]; simp; omega) Hs.out
            have Hr := Lib.hid hr
            clear hr hpa hc
            go_wp2_with (first | ((go_at_call 49; refine (Has_any _ _ _ _ ho).mono ?_; rintro e w' ⟨rfl, rfl⟩)))
            go_quiet (fail)
            go_wp2
            go_roundw
            case rel => exact ⟨hE.drewN _, k + 1, by omega, by go_num, Hr.out⟩
            case measure => simp [intOf]; omega
        · have d0 : decide (0 < k) = false := by simp; omega
          have hr := rising_good hlt p1 (by rw [prevAt_none h0]; rfl) Hs.out
          have Hr := Lib.hid hr
          clear hr hc
          go_wp2_with (first | ((go_at_call 49; refine (Has_any _ _ _ _ ho).mono ?_; rintro e w' ⟨rfl, rfl⟩)))
          go_quiet (fail)
          go_wp2
          go_roundw
          case rel => exact ⟨hE.drewN _, k + 1, by omega, by go_num, Hr.out⟩
          case measure => simp [intOf]; omega
      · simp only [Bool.not_eq_true] at p1
        have hr := rising_bad1 hlt p1 Hs.out
        have Hr := Lib.hid hr
        clear hr hc
        go_wp2_with (first | ((go_at_call 49; refine (Has_any _ _ _ _ ho).mono ?_; rintro e w' ⟨rfl, rfl⟩)))
        go_ret
        exact ⟨ret_i Hr.out.symm, hE⟩
    · obtain rfl : k = l.length := by omega
      have hr := rising_end Hs.out
      have Hr := Lib.hid hr
      clear hr h4
      go_wp2
      go_ret
      exact ⟨ret_i Hr.out.symm, hE⟩

set_option maxHeartbeats 3000000 in
theorem RSheet_any (cv sv : Value) (c : Code) (s : Sheet) (w : World) (h : CodeV w cv c) (hsv : SheetV w sv s) (ho : c.Ok) :
    Calls Tryz.prog 96 #[cv, sv] w fun e w' => e = .returned (.int .i64 (s.err c)) ∧ Ext w w' := by
  obtain ⟨fv, mv, rfl, hF, hM, hW⟩ := h
  obtain ⟨kv, rfl, hK⟩ := hsv
  obtain ⟨A, cp, rfl, h1, h2, h3, h4⟩ := hK
  have hK : Lines w (.slice A s.kept.length cp) s.kept := ⟨A, cp, rfl, h1, h2, h3, h4⟩
  unfold maxLen at h2
  clear h3
  have hE := Ext.refl w
  have HW := Lib.hid hW
  have t1 := ho.thing1
  have t9 := ho.thing9
  have hbF : c.faults.length ≤ 1000000 ∧ c.man.length ≤ 1000000 := by have := ho.nf2; have := ho.nm; omega
  have HbF := Lib.hid hbF
  have hwr : IntKind.i64.wrap ((c.things : Int) - 1) = c.things - 1 := IntWalk.i64_in _ (by omega)
  clear hW hbF ho
  by_cases hln : inB s.lines 1 12 = true
  · have hlr := inB_t.1 hln
    go_enter Tryz.func96, Tryz.ntmps96
    go_wp2_with (first | ((go_at_call 56; refine (in_any _ _ _ _).mono ?_; rintro e w' ⟨rfl, rfl⟩)) | ((with_reducible refine q_box (d := some 2) ?_); intro W2 g2 hE2 hB2 hg2; simp [Act.eval, Act.put, Value.cells] at hB2; (try replace hE := hE.trans hE2); (try replace hF := hF.ext hE2); (try replace hM := hM.ext hE2); (try replace hK := hK.ext hE2); (try replace hB2 := hB2.ext hE2); (try replace hB3 := hB3.ext hE2); (try replace hb2_0 := Ext.cell_some hE2 hb2_0); (try replace hb2_1 := Ext.cell_some hE2 hb2_1); (try replace hb2_2 := Ext.cell_some hE2 hb2_2); (try replace hb3_0 := Ext.cell_some hE2 hb3_0); (try replace hb3_1 := Ext.cell_some hE2 hb3_1); have hb2_0 := hB2.cell 0; have hb2_1 := hB2.cell 1; have hb2_2 := hB2.cell 2; simp at hb2_0 hb2_1 hb2_2; clear hE2) | ((with_reducible refine q_box (d := some 3) ?_); intro W3 g3 hE3 hB3 hg3; simp [Act.eval, Act.put, Value.cells] at hB3; (try replace hE := hE.trans hE3); (try replace hF := hF.ext hE3); (try replace hM := hM.ext hE3); (try replace hK := hK.ext hE3); (try replace hB2 := hB2.ext hE3); (try replace hB3 := hB3.ext hE3); (try replace hb2_0 := Ext.cell_some hE3 hb2_0); (try replace hb2_1 := Ext.cell_some hE3 hb2_1); (try replace hb2_2 := Ext.cell_some hE3 hb2_2); (try replace hb3_0 := Ext.cell_some hE3 hb3_0); (try replace hb3_1 := Ext.cell_some hE3 hb3_1); have hb3_0 := hB3.cell 0; have hb3_1 := hB3.cell 1; simp at hb3_0 hb3_1; clear hE3))
    go_loopw [5] (fun i wr => Ext W3 wr ∧ ∃ k : Nat, k ≤ s.kept.length ∧ i = .int .i64 k ∧ c.linesErr s.lines none s.kept = c.linesErr s.lines (prevNo s.kept k) (s.kept.drop k)) (fun i _ => s.kept.length - (intOf i).toNat)
    case atStart => exact ⟨Ext.refl _, 0, by omega, rfl, rfl⟩
    case round =>
      obtain ⟨hEr, k, hk, rfl, hs⟩ := hrel
      (try replace hE := hE.trans hEr); (try replace hF := hF.ext hEr); (try replace hM := hM.ext hEr); (try replace hK := hK.ext hEr); (try replace hB2 := hB2.ext hEr); (try replace hB3 := hB3.ext hEr); (try replace hb2_0 := Ext.cell_some hEr hb2_0); (try replace hb2_1 := Ext.cell_some hEr hb2_1); (try replace hb2_2 := Ext.cell_some hEr hb2_2); (try replace hb3_0 := Ext.cell_some hEr hb3_0); (try replace hb3_1 := Ext.cell_some hEr hb3_1)
      have Hs := Lib.hid hs
      clear hs
      by_cases hlt : k < s.kept.length
      · obtain ⟨ad, rfl, hc⟩ := h4 (by omega)
        replace hc := hc.ext hE
        clear h4
        have eS := ld_l hc hlt
        by_cases p1 : inB s.kept[k].no 1 s.lines = true
        · by_cases p2 : (prevNo s.kept k).any (fun y => decide (s.kept[k].no ≤ y)) = true
          · have h0 : 0 < k := by
              rcases Nat.eq_zero_or_pos k with e | e
              · rw [prevNo_none (by omega)] at p2; cases p2
              · exact e
            have d0 : decide (0 < k) = true := by simp; omega
            have hk1 : k - 1 < s.kept.length := by omega
            have e2 := hc.l0 hk1
            rw [prevNo_pos _ h0 hlt] at p2
            have q1 : decide (s.kept[k].no ≤ s.kept[k - 1].no) = true := by simpa using p2
            have hr := Sheet.err_line hln (by decide) (linesErr_bad hlt (Code.lineErr_arg p1 (by rw [prevNo_pos _ h0 hlt]; exact p2)) (by decide) Hs.out)
            have Hr := Lib.hid hr
            clear hr p2 hc
            go_wp2_with (first | ((go_at_call 56; refine (in_any _ _ _ _).mono ?_; rintro e w' ⟨rfl, rfl⟩)) | ((with_reducible refine q_load (d := some 22) (hl := eS) ?_ ?_); rfl) | ((with_reducible refine q_newvar (e := 99) (u := 6) (v := .agg #[.int .i64 s.kept[k].no, .int .i64 s.kept[k].what, .int .i64 s.kept[k].sum]) ti99 ?_ ?_ ?_ ?_ ?_ ?_); (intro g; rfl); (intro g; rfl); rfl; rfl; (simp [Value.cells, Value.oneCell']); intro W6 g6 hE6 hB6 hg6; simp [Value.cells] at hB6; (try replace hE := hE.trans hE6); (try replace hEr := hEr.trans hE6); (try replace hF := hF.ext hE6); (try replace hM := hM.ext hE6); (try replace hK := hK.ext hE6); (try replace hB2 := hB2.ext hE6); (try replace hB3 := hB3.ext hE6); (try replace hb2_0 := Ext.cell_some hE6 hb2_0); (try replace hb2_1 := Ext.cell_some hE6 hb2_1); (try replace hb2_2 := Ext.cell_some hE6 hb2_2); (try replace hb3_0 := Ext.cell_some hE6 hb3_0); (try replace hb3_1 := Ext.cell_some hE6 hb3_1); (try replace e2 := Ext.cell_some hE6 e2); have hb6_0 := hB6.cell 0; have hb6_1 := hB6.cell 1; have hb6_2 := hB6.cell 2; simp at hb6_0 hb6_1 hb6_2; clear hE6) | ((with_reducible refine q_box (d := some 2) ?_); intro W2 g2 hE2 hB2 hg2; simp [Act.eval, Act.put, Value.cells] at hB2; (try replace hE := hE.trans hE2); (try replace hEr := hEr.trans hE2); (try replace hF := hF.ext hE2); (try replace hM := hM.ext hE2); (try replace hK := hK.ext hE2); (try replace hB2 := hB2.ext hE2); (try replace hB3 := hB3.ext hE2); (try replace hb2_0 := Ext.cell_some hE2 hb2_0); (try replace hb2_1 := Ext.cell_some hE2 hb2_1); (try replace hb2_2 := Ext.cell_some hE2 hb2_2); (try replace hb3_0 := Ext.cell_some hE2 hb3_0); (try replace hb3_1 := Ext.cell_some hE2 hb3_1); (try replace e2 := Ext.cell_some hE2 e2); have hb2_0 := hB2.cell 0; have hb2_1 := hB2.cell 1; have hb2_2 := hB2.cell 2; simp at hb2_0 hb2_1 hb2_2; clear hE2) | ((with_reducible refine q_box (d := some 3) ?_); intro W3 g3 hE3 hB3 hg3; simp [Act.eval, Act.put, Value.cells] at hB3; (try replace hE := hE.trans hE3); (try replace hEr := hEr.trans hE3); (try replace hF := hF.ext hE3); (try replace hM := hM.ext hE3); (try replace hK := hK.ext hE3); (try replace hB2 := hB2.ext hE3); (try replace hB3 := hB3.ext hE3); (try replace hb2_0 := Ext.cell_some hE3 hb2_0); (try replace hb2_1 := Ext.cell_some hE3 hb2_1); (try replace hb2_2 := Ext.cell_some hE3 hb2_2); (try replace hb3_0 := Ext.cell_some hE3 hb3_0); (try replace hb3_1 := Ext.cell_some hE3 hb3_1); (try replace e2 := Ext.cell_some hE3 e2); have hb3_0 := hB3.cell 0; have hb3_1 := hB3.cell 1; simp at hb3_0 hb3_1; clear hE3))
            go_quiet (fail)
            go_wp2
            go_ret
            exact ⟨ret_i Hr.out.symm, hE.drewN _⟩
          · simp only [Bool.not_eq_true] at p2
            have Hp2 := Lib.hid p2
            by_cases h0 : 0 < k
            · have d0 : decide (0 < k) = true := by simp; omega
              have hk1 : k - 1 < s.kept.length := by omega
              have e2 := hc.l0 hk1
              rw [prevNo_pos _ h0 hlt] at p2
              have q1 : decide (s.kept[k].no ≤ s.kept[k - 1].no) = false := by simpa using p2
              clear p2 hc
              by_cases p3 : inB s.kept[k].what 0 (c.things - 1) = true
              · by_cases p4 : inB s.kept[k].sum 0 240 = true
                · have hr := linesErr_good hlt (Code.lineErr_ok p1 Hp2.out p3 p4) Hs.out
                  have Hr := Lib.hid hr
                  clear hr
                  go_wp2_with (first | ((go_at_call 56; refine (in_any _ _ _ _).mono ?_; rintro e w' ⟨rfl, rfl⟩)) | ((with_reducible refine q_load (d := some 22) (hl := eS) ?_ ?_); rfl) | ((with_reducible refine q_newvar (e := 99) (u := 6) (v := .agg #[.int .i64 s.kept[k].no, .int .i64 s.kept[k].what, .int .i64 s.kept[k].sum]) ti99 ?_ ?_ ?_ ?_ ?_ ?_); (intro g; rfl); (intro g; rfl); rfl; rfl; (simp [Value.cells, Value.oneCell']); intro W6 g6 hE6 hB6 hg6; simp [Value.cells] at hB6; (try replace hE := hE.trans hE6); (try replace hEr := hEr.trans hE6); (try replace hF := hF.ext hE6); (try replace hM := hM.ext hE6); (try replace hK := hK.ext hE6); (try replace hB2 := hB2.ext hE6); (try replace hB3 := hB3.ext hE6); (try replace hB6 := hB6.ext hE6); (try replace hb2_0 := Ext.cell_some hE6 hb2_0); (try replace hb2_1 := Ext.cell_some hE6 hb2_1); (try replace hb2_2 := Ext.cell_some hE6 hb2_2); (try replace hb3_0 := Ext.cell_some hE6 hb3_0); (try replace hb3_1 := Ext.cell_some hE6 hb3_1); (try replace e2 := Ext.cell_some hE6 e2); (try replace hb6_0 := Ext.cell_some hE6 hb6_0); (try replace hb6_1 := Ext.cell_some hE6 hb6_1); (try replace hb6_2 := Ext.cell_some hE6 hb6_2); have hb6_0 := hB6.cell 0; have hb6_1 := hB6.cell 1; have hb6_2 := hB6.cell 2; simp at hb6_0 hb6_1 hb6_2; clear hE6) | ((with_reducible refine q_box (d := some 2) ?_); intro W2 g2 hE2 hB2 hg2; simp [Act.eval, Act.put, Value.cells] at hB2; (try replace hE := hE.trans hE2); (try replace hEr := hEr.trans hE2); (try replace hF := hF.ext hE2); (try replace hM := hM.ext hE2); (try replace hK := hK.ext hE2); (try replace hB2 := hB2.ext hE2); (try replace hB3 := hB3.ext hE2); (try replace hB6 := hB6.ext hE2); (try replace hb2_0 := Ext.cell_some hE2 hb2_0); (try replace hb2_1 := Ext.cell_some hE2 hb2_1); (try replace hb2_2 := Ext.cell_some hE2 hb2_2); (try replace hb3_0 := Ext.cell_some hE2 hb3_0); (try replace hb3_1 := Ext.cell_some hE2 hb3_1); (try replace e2 := Ext.cell_some hE2 e2); (try replace hb6_0 := Ext.cell_some hE2 hb6_0); (try replace hb6_1 := Ext.cell_some hE2 hb6_1); (try replace hb6_2 := Ext.cell_some hE2 hb6_2); have hb2_0 := hB2.cell 0; have hb2_1 := hB2.cell 1; have hb2_2 := hB2.cell 2; simp at hb2_0 hb2_1 hb2_2; clear hE2) | ((with_reducible refine q_box (d := some 3) ?_); intro W3 g3 hE3 hB3 hg3; simp [Act.eval, Act.put, Value.cells] at hB3; (try replace hE := hE.trans hE3); (try replace hEr := hEr.trans hE3); (try replace hF := hF.ext hE3); (try replace hM := hM.ext hE3); (try replace hK := hK.ext hE3); (try replace hB2 := hB2.ext hE3); (try replace hB3 := hB3.ext hE3); (try replace hB6 := hB6.ext hE3); (try replace hb2_0 := Ext.cell_some hE3 hb2_0); (try replace hb2_1 := Ext.cell_some hE3 hb2_1); (try replace hb2_2 := Ext.cell_some hE3 hb2_2); (try replace hb3_0 := Ext.cell_some hE3 hb3_0); (try replace hb3_1 := Ext.cell_some hE3 hb3_1); (try replace e2 := Ext.cell_some hE3 e2); (try replace hb6_0 := Ext.cell_some hE3 hb6_0); (try replace hb6_1 := Ext.cell_some hE3 hb6_1); (try replace hb6_2 := Ext.cell_some hE3 hb6_2); have hb3_0 := hB3.cell 0; have hb3_1 := hB3.cell 1; simp at hb3_0 hb3_1; clear hE3))
                  go_quiet (fail)
                  (try replace hE := hE.trans ((Ext.refl W6).drewN nq)); (try replace hEr := hEr.trans ((Ext.refl W6).drewN nq)); (try replace hF := hF.ext ((Ext.refl W6).drewN nq)); (try replace hM := hM.ext ((Ext.refl W6).drewN nq)); (try replace hK := hK.ext ((Ext.refl W6).drewN nq)); (try replace hB2 := hB2.ext ((Ext.refl W6).drewN nq)); (try replace hB3 := hB3.ext ((Ext.refl W6).drewN nq)); (try replace hB6 := hB6.ext ((Ext.refl W6).drewN nq)); (try replace hb2_0 := Ext.cell_some ((Ext.refl W6).drewN nq) hb2_0); (try replace hb2_1 := Ext.cell_some ((Ext.refl W6).drewN nq) hb2_1); (try replace hb2_2 := Ext.cell_some ((Ext.refl W6).drewN nq) hb2_2); (try replace hb3_0 := Ext.cell_some ((Ext.refl W6).drewN nq) hb3_0); (try replace hb3_1 := Ext.cell_some ((Ext.refl W6).drewN nq) hb3_1); (try replace e2 := Ext.cell_some ((Ext.refl W6).drewN nq) e2); (try replace hb6_0 := Ext.cell_some ((Ext.refl W6).drewN nq) hb6_0); (try replace hb6_1 := Ext.cell_some ((Ext.refl W6).drewN nq) hb6_1); (try replace hb6_2 := Ext.cell_some ((Ext.refl W6).drewN nq) hb6_2)
                  generalize World.drewN W6 nq = WqW6 at *
                  go_wp2_with fail
                  go_region_held3 (fun w' => w'.cell? ⟨g2, 0, none⟩ = some (fv) ∧ w'.cell? ⟨g2, 1, none⟩ = some (mv) ∧ w'.cell? ⟨g2, 2, none⟩ = some (.int .i64 c.all) ∧ w'.cell? ((⟨g6, 1, none⟩)) = some (.int .i64 s.kept[k].what)) (simp [*]) ((first | (go_at_call 97; ((with_reducible refine (things_any _ c _ (by first | exact CodeV.of hF hM HW.out | exact (CodeV.of hF hM HW.out).d) HbF.out).mono ?_); rintro e Wc1 ⟨rfl, hEc1⟩; (try replace hEc1 := Ext.undrew hEc1); (try replace hE := hE.trans hEc1); (try replace hEr := hEr.trans hEc1); (try replace hF := hF.ext hEc1); (try replace hM := hM.ext hEc1); (try replace hK := hK.ext hEc1); (try replace hB2 := hB2.ext hEc1); (try replace hB3 := hB3.ext hEc1); (try replace hB6 := hB6.ext hEc1); (try replace hb2_0 := Ext.cell_some hEc1 hb2_0); (try replace hb2_1 := Ext.cell_some hEc1 hb2_1); (try replace hb2_2 := Ext.cell_some hEc1 hb2_2); (try replace hb3_0 := Ext.cell_some hEc1 hb3_0); (try replace hb3_1 := Ext.cell_some hEc1 hb3_1); (try replace e2 := Ext.cell_some hEc1 e2); (try replace hb6_0 := Ext.cell_some hEc1 hb6_0); (try replace hb6_1 := Ext.cell_some hEc1 hb6_1); (try replace hb6_2 := Ext.cell_some hEc1 hb6_2))) | ((go_at_call 56; refine (in_any _ _ _ _).mono ?_; rintro e w' ⟨rfl, rfl⟩))))
                  go_wp2_with (go_at_call 56; refine (in_any _ _ _ _).mono ?_; rintro e w' ⟨rfl, rfl⟩)
                  go_roundw
                  case rel => exact ⟨hEr, k + 1, by omega, by go_num, Hr.out⟩
                  case measure => simp [intOf]; omega
                · simp only [Bool.not_eq_true] at p4
                  have hr := Sheet.err_line hln (by decide) (linesErr_bad hlt (Code.lineErr_sum p1 Hp2.out p3 p4) (by decide) Hs.out)
                  have Hr := Lib.hid hr
                  clear hr
                  go_wp2_with (first | ((go_at_call 56; refine (in_any _ _ _ _).mono ?_; rintro e w' ⟨rfl, rfl⟩)) | ((with_reducible refine q_load (d := some 22) (hl := eS) ?_ ?_); rfl) | ((with_reducible refine q_newvar (e := 99) (u := 6) (v := .agg #[.int .i64 s.kept[k].no, .int .i64 s.kept[k].what, .int .i64 s.kept[k].sum]) ti99 ?_ ?_ ?_ ?_ ?_ ?_); (intro g; rfl); (intro g; rfl); rfl; rfl; (simp [Value.cells, Value.oneCell']); intro W6 g6 hE6 hB6 hg6; simp [Value.cells] at hB6; (try replace hE := hE.trans hE6); (try replace hEr := hEr.trans hE6); (try replace hF := hF.ext hE6); (try replace hM := hM.ext hE6); (try replace hK := hK.ext hE6); (try replace hB2 := hB2.ext hE6); (try replace hB3 := hB3.ext hE6); (try replace hB6 := hB6.ext hE6); (try replace hb2_0 := Ext.cell_some hE6 hb2_0); (try replace hb2_1 := Ext.cell_some hE6 hb2_1); (try replace hb2_2 := Ext.cell_some hE6 hb2_2); (try replace hb3_0 := Ext.cell_some hE6 hb3_0); (try replace hb3_1 := Ext.cell_some hE6 hb3_1); (try replace e2 := Ext.cell_some hE6 e2); (try replace hb6_0 := Ext.cell_some hE6 hb6_0); (try replace hb6_1 := Ext.cell_some hE6 hb6_1); (try replace hb6_2 := Ext.cell_some hE6 hb6_2); have hb6_0 := hB6.cell 0; have hb6_1 := hB6.cell 1; have hb6_2 := hB6.cell 2; simp at hb6_0 hb6_1 hb6_2; clear hE6) | ((with_reducible refine q_box (d := some 2) ?_); intro W2 g2 hE2 hB2 hg2; simp [Act.eval, Act.put, Value.cells] at hB2; (try replace hE := hE.trans hE2); (try replace hEr := hEr.trans hE2); (try replace hF := hF.ext hE2); (try replace hM := hM.ext hE2); (try replace hK := hK.ext hE2); (try replace hB2 := hB2.ext hE2); (try replace hB3 := hB3.ext hE2); (try replace hB6 := hB6.ext hE2); (try replace hb2_0 := Ext.cell_some hE2 hb2_0); (try replace hb2_1 := Ext.cell_some hE2 hb2_1); (try replace hb2_2 := Ext.cell_some hE2 hb2_2); (try replace hb3_0 := Ext.cell_some hE2 hb3_0); (try replace hb3_1 := Ext.cell_some hE2 hb3_1); (try replace e2 := Ext.cell_some hE2 e2); (try replace hb6_0 := Ext.cell_some hE2 hb6_0); (try replace hb6_1 := Ext.cell_some hE2 hb6_1); (try replace hb6_2 := Ext.cell_some hE2 hb6_2); have hb2_0 := hB2.cell 0; have hb2_1 := hB2.cell 1; have hb2_2 := hB2.cell 2; simp at hb2_0 hb2_1 hb2_2; clear hE2) | ((with_reducible refine q_box (d := some 3) ?_); intro W3 g3 hE3 hB3 hg3; simp [Act.eval, Act.put, Value.cells] at hB3; (try replace hE := hE.trans hE3); (try replace hEr := hEr.trans hE3); (try replace hF := hF.ext hE3); (try replace hM := hM.ext hE3); (try replace hK := hK.ext hE3); (try replace hB2 := hB2.ext hE3); (try replace hB3 := hB3.ext hE3); (try replace hB6 := hB6.ext hE3); (try replace hb2_0 := Ext.cell_some hE3 hb2_0); (try replace hb2_1 := Ext.cell_some hE3 hb2_1); (try replace hb2_2 := Ext.cell_some hE3 hb2_2); (try replace hb3_0 := Ext.cell_some hE3 hb3_0); (try replace hb3_1 := Ext.cell_some hE3 hb3_1); (try replace e2 := Ext.cell_some hE3 e2); (try replace hb6_0 := Ext.cell_some hE3 hb6_0); (try replace hb6_1 := Ext.cell_some hE3 hb6_1); (try replace hb6_2 := Ext.cell_some hE3 hb6_2); have hb3_0 := hB3.cell 0; have hb3_1 := hB3.cell 1; simp at hb3_0 hb3_1; clear hE3))
                  go_quiet (fail)
                  (try replace hE := hE.trans ((Ext.refl W6).drewN nq)); (try replace hEr := hEr.trans ((Ext.refl W6).drewN nq)); (try replace hF := hF.ext ((Ext.refl W6).drewN nq)); (try replace hM := hM.ext ((Ext.refl W6).drewN nq)); (try replace hK := hK.ext ((Ext.refl W6).drewN nq)); (try replace hB2 := hB2.ext ((Ext.refl W6).drewN nq)); (try replace hB3 := hB3.ext ((Ext.refl W6).drewN nq)); (try replace hB6 := hB6.ext ((Ext.refl W6).drewN nq)); (try replace hb2_0 := Ext.cell_some ((Ext.refl W6).drewN nq) hb2_0); (try replace hb2_1 := Ext.cell_some ((Ext.refl W6).drewN nq) hb2_1); (try replace hb2_2 := Ext.cell_some ((Ext.refl W6).drewN nq) hb2_2); (try replace hb3_0 := Ext.cell_some ((Ext.refl W6).drewN nq) hb3_0); (try replace hb3_1 := Ext.cell_some ((Ext.refl W6).drewN nq) hb3_1); (try replace e2 := Ext.cell_some ((Ext.refl W6).drewN nq) e2); (try replace hb6_0 := Ext.cell_some ((Ext.refl W6).drewN nq) hb6_0); (try replace hb6_1 := Ext.cell_some ((Ext.refl W6).drewN nq) hb6_1); (try replace hb6_2 := Ext.cell_some ((Ext.refl W6).drewN nq) hb6_2)
                  generalize World.drewN W6 nq = WqW6 at *
                  go_wp2_with fail
                  go_region_held3 (fun w' => w'.cell? ⟨g2, 0, none⟩ = some (fv) ∧ w'.cell? ⟨g2, 1, none⟩ = some (mv) ∧ w'.cell? ⟨g2, 2, none⟩ = some (.int .i64 c.all) ∧ w'.cell? ((⟨g6, 1, none⟩)) = some (.int .i64 s.kept[k].what)) (simp [*]) ((first | (go_at_call 97; ((with_reducible refine (things_any _ c _ (by first | exact CodeV.of hF hM HW.out | exact (CodeV.of hF hM HW.out).d) HbF.out).mono ?_); rintro e Wc2 ⟨rfl, hEc2⟩; (try replace hEc2 := Ext.undrew hEc2); (try replace hE := hE.trans hEc2); (try replace hEr := hEr.trans hEc2); (try replace hF := hF.ext hEc2); (try replace hM := hM.ext hEc2); (try replace hK := hK.ext hEc2); (try replace hB2 := hB2.ext hEc2); (try replace hB3 := hB3.ext hEc2); (try replace hB6 := hB6.ext hEc2); (try replace hb2_0 := Ext.cell_some hEc2 hb2_0); (try replace hb2_1 := Ext.cell_some hEc2 hb2_1); (try replace hb2_2 := Ext.cell_some hEc2 hb2_2); (try replace hb3_0 := Ext.cell_some hEc2 hb3_0); (try replace hb3_1 := Ext.cell_some hEc2 hb3_1); (try replace e2 := Ext.cell_some hEc2 e2); (try replace hb6_0 := Ext.cell_some hEc2 hb6_0); (try replace hb6_1 := Ext.cell_some hEc2 hb6_1); (try replace hb6_2 := Ext.cell_some hEc2 hb6_2))) | ((go_at_call 56; refine (in_any _ _ _ _).mono ?_; rintro e w' ⟨rfl, rfl⟩))))
                  go_wp2_with (go_at_call 56; refine (in_any _ _ _ _).mono ?_; rintro e w' ⟨rfl, rfl⟩)
                  go_ret
                  exact ⟨ret_i Hr.out.symm, hE⟩
              · simp only [Bool.not_eq_true] at p3
                have hr := Sheet.err_line hln (by decide) (linesErr_bad hlt (Code.lineErr_none p1 Hp2.out p3) (by decide) Hs.out)
                have Hr := Lib.hid hr
                clear hr
                go_wp2_with (first | ((go_at_call 56; refine (in_any _ _ _ _).mono ?_; rintro e w' ⟨rfl, rfl⟩)) | ((with_reducible refine q_load (d := some 22) (hl := eS) ?_ ?_); rfl) | ((with_reducible refine q_newvar (e := 99) (u := 6) (v := .agg #[.int .i64 s.kept[k].no, .int .i64 s.kept[k].what, .int .i64 s.kept[k].sum]) ti99 ?_ ?_ ?_ ?_ ?_ ?_); (intro g; rfl); (intro g; rfl); rfl; rfl; (simp [Value.cells, Value.oneCell']); intro W6 g6 hE6 hB6 hg6; simp [Value.cells] at hB6; (try replace hE := hE.trans hE6); (try replace hEr := hEr.trans hE6); (try replace hF := hF.ext hE6); (try replace hM := hM.ext hE6); (try replace hK := hK.ext hE6); (try replace hB2 := hB2.ext hE6); (try replace hB3 := hB3.ext hE6); (try replace hB6 := hB6.ext hE6); (try replace hb2_0 := Ext.cell_some hE6 hb2_0); (try replace hb2_1 := Ext.cell_some hE6 hb2_1); (try replace hb2_2 := Ext.cell_some hE6 hb2_2); (try replace hb3_0 := Ext.cell_some hE6 hb3_0); (try replace hb3_1 := Ext.cell_some hE6 hb3_1); (try replace e2 := Ext.cell_some hE6 e2); (try replace hb6_0 := Ext.cell_some hE6 hb6_0); (try replace hb6_1 := Ext.cell_some hE6 hb6_1); (try replace hb6_2 := Ext.cell_some hE6 hb6_2); have hb6_0 := hB6.cell 0; have hb6_1 := hB6.cell 1; have hb6_2 := hB6.cell 2; simp at hb6_0 hb6_1 hb6_2; clear hE6) | ((with_reducible refine q_box (d := some 2) ?_); intro W2 g2 hE2 hB2 hg2; simp [Act.eval, Act.put, Value.cells] at hB2; (try replace hE := hE.trans hE2); (try replace hEr := hEr.trans hE2); (try replace hF := hF.ext hE2); (try replace hM := hM.ext hE2); (try replace hK := hK.ext hE2); (try replace hB2 := hB2.ext hE2); (try replace hB3 := hB3.ext hE2); (try replace hB6 := hB6.ext hE2); (try replace hb2_0 := Ext.cell_some hE2 hb2_0); (try replace hb2_1 := Ext.cell_some hE2 hb2_1); (try replace hb2_2 := Ext.cell_some hE2 hb2_2); (try replace hb3_0 := Ext.cell_some hE2 hb3_0); (try replace hb3_1 := Ext.cell_some hE2 hb3_1); (try replace e2 := Ext.cell_some hE2 e2); (try replace hb6_0 := Ext.cell_some hE2 hb6_0); (try replace hb6_1 := Ext.cell_some hE2 hb6_1); (try replace hb6_2 := Ext.cell_some hE2 hb6_2); have hb2_0 := hB2.cell 0; have hb2_1 := hB2.cell 1; have hb2_2 := hB2.cell 2; simp at hb2_0 hb2_1 hb2_2; clear hE2) | ((with_reducible refine q_box (d := some 3) ?_); intro W3 g3 hE3 hB3 hg3; simp [Act.eval, Act.put, Value.cells] at hB3; (try replace hE := hE.trans hE3); (try replace hEr := hEr.trans hE3); (try replace hF := hF.ext hE3); (try replace hM := hM.ext hE3); (try replace hK := hK.ext hE3); (try replace hB2 := hB2.ext hE3); (try replace hB3 := hB3.ext hE3); (try replace hB6 := hB6.ext hE3); (try replace hb2_0 := Ext.cell_some hE3 hb2_0); (try replace hb2_1 := Ext.cell_some hE3 hb2_1); (try replace hb2_2 := Ext.cell_some hE3 hb2_2); (try replace hb3_0 := Ext.cell_some hE3 hb3_0); (try replace hb3_1 := Ext.cell_some hE3 hb3_1); (try replace e2 := Ext.cell_some hE3 e2); (try replace hb6_0 := Ext.cell_some hE3 hb6_0); (try replace hb6_1 := Ext.cell_some hE3 hb6_1); (try replace hb6_2 := Ext.cell_some hE3 hb6_2); have hb3_0 := hB3.cell 0; have hb3_1 := hB3.cell 1; simp at hb3_0 hb3_1; clear hE3))
                go_quiet (fail)
                (try replace hE := hE.trans ((Ext.refl W6).drewN nq)); (try replace hEr := hEr.trans ((Ext.refl W6).drewN nq)); (try replace hF := hF.ext ((Ext.refl W6).drewN nq)); (try replace hM := hM.ext ((Ext.refl W6).drewN nq)); (try replace hK := hK.ext ((Ext.refl W6).drewN nq)); (try replace hB2 := hB2.ext ((Ext.refl W6).drewN nq)); (try replace hB3 := hB3.ext ((Ext.refl W6).drewN nq)); (try replace hB6 := hB6.ext ((Ext.refl W6).drewN nq)); (try replace hb2_0 := Ext.cell_some ((Ext.refl W6).drewN nq) hb2_0); (try replace hb2_1 := Ext.cell_some ((Ext.refl W6).drewN nq) hb2_1); (try replace hb2_2 := Ext.cell_some ((Ext.refl W6).drewN nq) hb2_2); (try replace hb3_0 := Ext.cell_some ((Ext.refl W6).drewN nq) hb3_0); (try replace hb3_1 := Ext.cell_some ((Ext.refl W6).drewN nq) hb3_1); (try replace e2 := Ext.cell_some ((Ext.refl W6).drewN nq) e2); (try replace hb6_0 := Ext.cell_some ((Ext.refl W6).drewN nq) hb6_0); (try replace hb6_1 := Ext.cell_some ((Ext.refl W6).drewN nq) hb6_1); (try replace hb6_2 := Ext.cell_some ((Ext.refl W6).drewN nq) hb6_2)
                generalize World.drewN W6 nq = WqW6 at *
                go_wp2_with fail
                go_region_held3 (fun w' => w'.cell? ⟨g2, 0, none⟩ = some (fv) ∧ w'.cell? ⟨g2, 1, none⟩ = some (mv) ∧ w'.cell? ⟨g2, 2, none⟩ = some (.int .i64 c.all) ∧ w'.cell? ((⟨g6, 1, none⟩)) = some (.int .i64 s.kept[k].what)) (simp [*]) ((first | (go_at_call 97; ((with_reducible refine (things_any _ c _ (by first | exact CodeV.of hF hM HW.out | exact (CodeV.of hF hM HW.out).d) HbF.out).mono ?_); rintro e Wc3 ⟨rfl, hEc3⟩; (try replace hEc3 := Ext.undrew hEc3); (try replace hE := hE.trans hEc3); (try replace hEr := hEr.trans hEc3); (try replace hF := hF.ext hEc3); (try replace hM := hM.ext hEc3); (try replace hK := hK.ext hEc3); (try replace hB2 := hB2.ext hEc3); (try replace hB3 := hB3.ext hEc3); (try replace hB6 := hB6.ext hEc3); (try replace hb2_0 := Ext.cell_some hEc3 hb2_0); (try replace hb2_1 := Ext.cell_some hEc3 hb2_1); (try replace hb2_2 := Ext.cell_some hEc3 hb2_2); (try replace hb3_0 := Ext.cell_some hEc3 hb3_0); (try replace hb3_1 := Ext.cell_some hEc3 hb3_1); (try replace e2 := Ext.cell_some hEc3 e2); (try replace hb6_0 := Ext.cell_some hEc3 hb6_0); (try replace hb6_1 := Ext.cell_some hEc3 hb6_1); (try replace hb6_2 := Ext.cell_some hEc3 hb6_2))) | ((go_at_call 56; refine (in_any _ _ _ _).mono ?_; rintro e w' ⟨rfl, rfl⟩))))
                go_wp2
                go_ret
                exact ⟨ret_i Hr.out.symm, hE⟩
            · have d0 : decide (0 < k) = false := by simp; omega
              clear p2 hc
              by_cases p3 : inB s.kept[k].what 0 (c.things - 1) = true
              · by_cases p4 : inB s.kept[k].sum 0 240 = true
                · have hr := linesErr_good hlt (Code.lineErr_ok p1 Hp2.out p3 p4) Hs.out
                  have Hr := Lib.hid hr
                  clear hr
                  go_wp2_with (first | ((go_at_call 56; refine (in_any _ _ _ _).mono ?_; rintro e w' ⟨rfl, rfl⟩)) | ((with_reducible refine q_load (d := some 22) (hl := eS) ?_ ?_); rfl) | ((with_reducible refine q_newvar (e := 99) (u := 6) (v := .agg #[.int .i64 s.kept[k].no, .int .i64 s.kept[k].what, .int .i64 s.kept[k].sum]) ti99 ?_ ?_ ?_ ?_ ?_ ?_); (intro g; rfl); (intro g; rfl); rfl; rfl; (simp [Value.cells, Value.oneCell']); intro W6 g6 hE6 hB6 hg6; simp [Value.cells] at hB6; (try replace hE := hE.trans hE6); (try replace hEr := hEr.trans hE6); (try replace hF := hF.ext hE6); (try replace hM := hM.ext hE6); (try replace hK := hK.ext hE6); (try replace hB2 := hB2.ext hE6); (try replace hB3 := hB3.ext hE6); (try replace hB6 := hB6.ext hE6); (try replace hb2_0 := Ext.cell_some hE6 hb2_0); (try replace hb2_1 := Ext.cell_some hE6 hb2_1); (try replace hb2_2 := Ext.cell_some hE6 hb2_2); (try replace hb3_0 := Ext.cell_some hE6 hb3_0); (try replace hb3_1 := Ext.cell_some hE6 hb3_1); (try replace e2 := Ext.cell_some hE6 e2); (try replace hb6_0 := Ext.cell_some hE6 hb6_0); (try replace hb6_1 := Ext.cell_some hE6 hb6_1); (try replace hb6_2 := Ext.cell_some hE6 hb6_2); have hb6_0 := hB6.cell 0; have hb6_1 := hB6.cell 1; have hb6_2 := hB6.cell 2; simp at hb6_0 hb6_1 hb6_2; clear hE6) | ((with_reducible refine q_box (d := some 2) ?_); intro W2 g2 hE2 hB2 hg2; simp [Act.eval, Act.put, Value.cells] at hB2; (try replace hE := hE.trans hE2); (try replace hEr := hEr.trans hE2); (try replace hF := hF.ext hE2); (try replace hM := hM.ext hE2); (try replace hK := hK.ext hE2); (try replace hB2 := hB2.ext hE2); (try replace hB3 := hB3.ext hE2); (try replace hB6 := hB6.ext hE2); (try replace hb2_0 := Ext.cell_some hE2 hb2_0); (try replace hb2_1 := Ext.cell_some hE2 hb2_1); (try replace hb2_2 := Ext.cell_some hE2 hb2_2); (try replace hb3_0 := Ext.cell_some hE2 hb3_0); (try replace hb3_1 := Ext.cell_some hE2 hb3_1); (try replace e2 := Ext.cell_some hE2 e2); (try replace hb6_0 := Ext.cell_some hE2 hb6_0); (try replace hb6_1 := Ext.cell_some hE2 hb6_1); (try replace hb6_2 := Ext.cell_some hE2 hb6_2); have hb2_0 := hB2.cell 0; have hb2_1 := hB2.cell 1; have hb2_2 := hB2.cell 2; simp at hb2_0 hb2_1 hb2_2; clear hE2) | ((with_reducible refine q_box (d := some 3) ?_); intro W3 g3 hE3 hB3 hg3; simp [Act.eval, Act.put, Value.cells] at hB3; (try replace hE := hE.trans hE3); (try replace hEr := hEr.trans hE3); (try replace hF := hF.ext hE3); (try replace hM := hM.ext hE3); (try replace hK := hK.ext hE3); (try replace hB2 := hB2.ext hE3); (try replace hB3 := hB3.ext hE3); (try replace hB6 := hB6.ext hE3); (try replace hb2_0 := Ext.cell_some hE3 hb2_0); (try replace hb2_1 := Ext.cell_some hE3 hb2_1); (try replace hb2_2 := Ext.cell_some hE3 hb2_2); (try replace hb3_0 := Ext.cell_some hE3 hb3_0); (try replace hb3_1 := Ext.cell_some hE3 hb3_1); (try replace e2 := Ext.cell_some hE3 e2); (try replace hb6_0 := Ext.cell_some hE3 hb6_0); (try replace hb6_1 := Ext.cell_some hE3 hb6_1); (try replace hb6_2 := Ext.cell_some hE3 hb6_2); have hb3_0 := hB3.cell 0; have hb3_1 := hB3.cell 1; simp at hb3_0 hb3_1; clear hE3))
                  go_quiet (fail)
                  (try replace hE := hE.trans ((Ext.refl W6).drewN nq)); (try replace hEr := hEr.trans ((Ext.refl W6).drewN nq)); (try replace hF := hF.ext ((Ext.refl W6).drewN nq)); (try replace hM := hM.ext ((Ext.refl W6).drewN nq)); (try replace hK := hK.ext ((Ext.refl W6).drewN nq)); (try replace hB2 := hB2.ext ((Ext.refl W6).drewN nq)); (try replace hB3 := hB3.ext ((Ext.refl W6).drewN nq)); (try replace hB6 := hB6.ext ((Ext.refl W6).drewN nq)); (try replace hb2_0 := Ext.cell_some ((Ext.refl W6).drewN nq) hb2_0); (try replace hb2_1 := Ext.cell_some ((Ext.refl W6).drewN nq) hb2_1); (try replace hb2_2 := Ext.cell_some ((Ext.refl W6).drewN nq) hb2_2); (try replace hb3_0 := Ext.cell_some ((Ext.refl W6).drewN nq) hb3_0); (try replace hb3_1 := Ext.cell_some ((Ext.refl W6).drewN nq) hb3_1); (try replace e2 := Ext.cell_some ((Ext.refl W6).drewN nq) e2); (try replace hb6_0 := Ext.cell_some ((Ext.refl W6).drewN nq) hb6_0); (try replace hb6_1 := Ext.cell_some ((Ext.refl W6).drewN nq) hb6_1); (try replace hb6_2 := Ext.cell_some ((Ext.refl W6).drewN nq) hb6_2)
                  generalize World.drewN W6 nq = WqW6 at *
                  go_wp2_with fail
                  go_region_held3 (fun w' => w'.cell? ⟨g2, 0, none⟩ = some (fv) ∧ w'.cell? ⟨g2, 1, none⟩ = some (mv) ∧ w'.cell? ⟨g2, 2, none⟩ = some (.int .i64 c.all) ∧ w'.cell? ((⟨g6, 1, none⟩)) = some (.int .i64 s.kept[k].what)) (simp [*]) ((first | (go_at_call 97; ((with_reducible refine (things_any _ c _ (by first | exact CodeV.of hF hM HW.out | exact (CodeV.of hF hM HW.out).d) HbF.out).mono ?_); rintro e Wc4 ⟨rfl, hEc4⟩; (try replace hEc4 := Ext.undrew hEc4); (try replace hE := hE.trans hEc4); (try replace hEr := hEr.trans hEc4); (try replace hF := hF.ext hEc4); (try replace hM := hM.ext hEc4); (try replace hK := hK.ext hEc4); (try replace hB2 := hB2.ext hEc4); (try replace hB3 := hB3.ext hEc4); (try replace hB6 := hB6.ext hEc4); (try replace hb2_0 := Ext.cell_some hEc4 hb2_0); (try replace hb2_1 := Ext.cell_some hEc4 hb2_1); (try replace hb2_2 := Ext.cell_some hEc4 hb2_2); (try replace hb3_0 := Ext.cell_some hEc4 hb3_0); (try replace hb3_1 := Ext.cell_some hEc4 hb3_1); (try replace e2 := Ext.cell_some hEc4 e2); (try replace hb6_0 := Ext.cell_some hEc4 hb6_0); (try replace hb6_1 := Ext.cell_some hEc4 hb6_1); (try replace hb6_2 := Ext.cell_some hEc4 hb6_2))) | ((go_at_call 56; refine (in_any _ _ _ _).mono ?_; rintro e w' ⟨rfl, rfl⟩))))
                  go_wp2_with (go_at_call 56; refine (in_any _ _ _ _).mono ?_; rintro e w' ⟨rfl, rfl⟩)
                  go_roundw
                  case rel => exact ⟨hEr, k + 1, by omega, by go_num, Hr.out⟩
                  case measure => simp [intOf]; omega
                · simp only [Bool.not_eq_true] at p4
                  have hr := Sheet.err_line hln (by decide) (linesErr_bad hlt (Code.lineErr_sum p1 Hp2.out p3 p4) (by decide) Hs.out)
                  have Hr := Lib.hid hr
                  clear hr
                  go_wp2_with (first | ((go_at_call 56; refine (in_any _ _ _ _).mono ?_; rintro e w' ⟨rfl, rfl⟩)) | ((with_reducible refine q_load (d := some 22) (hl := eS) ?_ ?_); rfl) | ((with_reducible refine q_newvar (e := 99) (u := 6) (v := .agg #[.int .i64 s.kept[k].no, .int .i64 s.kept[k].what, .int .i64 s.kept[k].sum]) ti99 ?_ ?_ ?_ ?_ ?_ ?_); (intro g; rfl); (intro g; rfl); rfl; rfl; (simp [Value.cells, Value.oneCell']); intro W6 g6 hE6 hB6 hg6; simp [Value.cells] at hB6; (try replace hE := hE.trans hE6); (try replace hEr := hEr.trans hE6); (try replace hF := hF.ext hE6); (try replace hM := hM.ext hE6); (try replace hK := hK.ext hE6); (try replace hB2 := hB2.ext hE6); (try replace hB3 := hB3.ext hE6); (try replace hB6 := hB6.ext hE6); (try replace hb2_0 := Ext.cell_some hE6 hb2_0); (try replace hb2_1 := Ext.cell_some hE6 hb2_1); (try replace hb2_2 := Ext.cell_some hE6 hb2_2); (try replace hb3_0 := Ext.cell_some hE6 hb3_0); (try replace hb3_1 := Ext.cell_some hE6 hb3_1); (try replace e2 := Ext.cell_some hE6 e2); (try replace hb6_0 := Ext.cell_some hE6 hb6_0); (try replace hb6_1 := Ext.cell_some hE6 hb6_1); (try replace hb6_2 := Ext.cell_some hE6 hb6_2); have hb6_0 := hB6.cell 0; have hb6_1 := hB6.cell 1; have hb6_2 := hB6.cell 2; simp at hb6_0 hb6_1 hb6_2; clear hE6) | ((with_reducible refine q_box (d := some 2) ?_); intro W2 g2 hE2 hB2 hg2; simp [Act.eval, Act.put, Value.cells] at hB2; (try replace hE := hE.trans hE2); (try replace hEr := hEr.trans hE2); (try replace hF := hF.ext hE2); (try replace hM := hM.ext hE2); (try replace hK := hK.ext hE2); (try replace hB2 := hB2.ext hE2); (try replace hB3 := hB3.ext hE2); (try replace hB6 := hB6.ext hE2); (try replace hb2_0 := Ext.cell_some hE2 hb2_0); (try replace hb2_1 := Ext.cell_some hE2 hb2_1); (try replace hb2_2 := Ext.cell_some hE2 hb2_2); (try replace hb3_0 := Ext.cell_some hE2 hb3_0); (try replace hb3_1 := Ext.cell_some hE2 hb3_1); (try replace e2 := Ext.cell_some hE2 e2); (try replace hb6_0 := Ext.cell_some hE2 hb6_0); (try replace hb6_1 := Ext.cell_some hE2 hb6_1); (try replace hb6_2 := Ext.cell_some hE2 hb6_2); have hb2_0 := hB2.cell 0; have hb2_1 := hB2.cell 1; have hb2_2 := hB2.cell 2; simp at hb2_0 hb2_1 hb2_2; clear hE2) | ((with_reducible refine q_box (d := some 3) ?_); intro W3 g3 hE3 hB3 hg3; simp [Act.eval, Act.put, Value.cells] at hB3; (try replace hE := hE.trans hE3); (try replace hEr := hEr.trans hE3); (try replace hF := hF.ext hE3); (try replace hM := hM.ext hE3); (try replace hK := hK.ext hE3); (try replace hB2 := hB2.ext hE3); (try replace hB3 := hB3.ext hE3); (try replace hB6 := hB6.ext hE3); (try replace hb2_0 := Ext.cell_some hE3 hb2_0); (try replace hb2_1 := Ext.cell_some hE3 hb2_1); (try replace hb2_2 := Ext.cell_some hE3 hb2_2); (try replace hb3_0 := Ext.cell_some hE3 hb3_0); (try replace hb3_1 := Ext.cell_some hE3 hb3_1); (try replace e2 := Ext.cell_some hE3 e2); (try replace hb6_0 := Ext.cell_some hE3 hb6_0); (try replace hb6_1 := Ext.cell_some hE3 hb6_1); (try replace hb6_2 := Ext.cell_some hE3 hb6_2); have hb3_0 := hB3.cell 0; have hb3_1 := hB3.cell 1; simp at hb3_0 hb3_1; clear hE3))
                  go_quiet (fail)
                  (try replace hE := hE.trans ((Ext.refl W6).drewN nq)); (try replace hEr := hEr.trans ((Ext.refl W6).drewN nq)); (try replace hF := hF.ext ((Ext.refl W6).drewN nq)); (try replace hM := hM.ext ((Ext.refl W6).drewN nq)); (try replace hK := hK.ext ((Ext.refl W6).drewN nq)); (try replace hB2 := hB2.ext ((Ext.refl W6).drewN nq)); (try replace hB3 := hB3.ext ((Ext.refl W6).drewN nq)); (try replace hB6 := hB6.ext ((Ext.refl W6).drewN nq)); (try replace hb2_0 := Ext.cell_some ((Ext.refl W6).drewN nq) hb2_0); (try replace hb2_1 := Ext.cell_some ((Ext.refl W6).drewN nq) hb2_1); (try replace hb2_2 := Ext.cell_some ((Ext.refl W6).drewN nq) hb2_2); (try replace hb3_0 := Ext.cell_some ((Ext.refl W6).drewN nq) hb3_0); (try replace hb3_1 := Ext.cell_some ((Ext.refl W6).drewN nq) hb3_1); (try replace e2 := Ext.cell_some ((Ext.refl W6).drewN nq) e2); (try replace hb6_0 := Ext.cell_some ((Ext.refl W6).drewN nq) hb6_0); (try replace hb6_1 := Ext.cell_some ((Ext.refl W6).drewN nq) hb6_1); (try replace hb6_2 := Ext.cell_some ((Ext.refl W6).drewN nq) hb6_2)
                  generalize World.drewN W6 nq = WqW6 at *
                  go_wp2_with fail
                  go_region_held3 (fun w' => w'.cell? ⟨g2, 0, none⟩ = some (fv) ∧ w'.cell? ⟨g2, 1, none⟩ = some (mv) ∧ w'.cell? ⟨g2, 2, none⟩ = some (.int .i64 c.all) ∧ w'.cell? ((⟨g6, 1, none⟩)) = some (.int .i64 s.kept[k].what)) (simp [*]) ((first | (go_at_call 97; ((with_reducible refine (things_any _ c _ (by first | exact CodeV.of hF hM HW.out | exact (CodeV.of hF hM HW.out).d) HbF.out).mono ?_); rintro e Wc5 ⟨rfl, hEc5⟩; (try replace hEc5 := Ext.undrew hEc5); (try replace hE := hE.trans hEc5); (try replace hEr := hEr.trans hEc5); (try replace hF := hF.ext hEc5); (try replace hM := hM.ext hEc5); (try replace hK := hK.ext hEc5); (try replace hB2 := hB2.ext hEc5); (try replace hB3 := hB3.ext hEc5); (try replace hB6 := hB6.ext hEc5); (try replace hb2_0 := Ext.cell_some hEc5 hb2_0); (try replace hb2_1 := Ext.cell_some hEc5 hb2_1); (try replace hb2_2 := Ext.cell_some hEc5 hb2_2); (try replace hb3_0 := Ext.cell_some hEc5 hb3_0); (try replace hb3_1 := Ext.cell_some hEc5 hb3_1); (try replace e2 := Ext.cell_some hEc5 e2); (try replace hb6_0 := Ext.cell_some hEc5 hb6_0); (try replace hb6_1 := Ext.cell_some hEc5 hb6_1); (try replace hb6_2 := Ext.cell_some hEc5 hb6_2))) | ((go_at_call 56; refine (in_any _ _ _ _).mono ?_; rintro e w' ⟨rfl, rfl⟩))))
                  go_wp2_with (go_at_call 56; refine (in_any _ _ _ _).mono ?_; rintro e w' ⟨rfl, rfl⟩)
                  go_ret
                  exact ⟨ret_i Hr.out.symm, hE⟩
              · simp only [Bool.not_eq_true] at p3
                have hr := Sheet.err_line hln (by decide) (linesErr_bad hlt (Code.lineErr_none p1 Hp2.out p3) (by decide) Hs.out)
                have Hr := Lib.hid hr
                clear hr
                go_wp2_with (first | ((go_at_call 56; refine (in_any _ _ _ _).mono ?_; rintro e w' ⟨rfl, rfl⟩)) | ((with_reducible refine q_load (d := some 22) (hl := eS) ?_ ?_); rfl) | ((with_reducible refine q_newvar (e := 99) (u := 6) (v := .agg #[.int .i64 s.kept[k].no, .int .i64 s.kept[k].what, .int .i64 s.kept[k].sum]) ti99 ?_ ?_ ?_ ?_ ?_ ?_); (intro g; rfl); (intro g; rfl); rfl; rfl; (simp [Value.cells, Value.oneCell']); intro W6 g6 hE6 hB6 hg6; simp [Value.cells] at hB6; (try replace hE := hE.trans hE6); (try replace hEr := hEr.trans hE6); (try replace hF := hF.ext hE6); (try replace hM := hM.ext hE6); (try replace hK := hK.ext hE6); (try replace hB2 := hB2.ext hE6); (try replace hB3 := hB3.ext hE6); (try replace hB6 := hB6.ext hE6); (try replace hb2_0 := Ext.cell_some hE6 hb2_0); (try replace hb2_1 := Ext.cell_some hE6 hb2_1); (try replace hb2_2 := Ext.cell_some hE6 hb2_2); (try replace hb3_0 := Ext.cell_some hE6 hb3_0); (try replace hb3_1 := Ext.cell_some hE6 hb3_1); (try replace e2 := Ext.cell_some hE6 e2); (try replace hb6_0 := Ext.cell_some hE6 hb6_0); (try replace hb6_1 := Ext.cell_some hE6 hb6_1); (try replace hb6_2 := Ext.cell_some hE6 hb6_2); have hb6_0 := hB6.cell 0; have hb6_1 := hB6.cell 1; have hb6_2 := hB6.cell 2; simp at hb6_0 hb6_1 hb6_2; clear hE6) | ((with_reducible refine q_box (d := some 2) ?_); intro W2 g2 hE2 hB2 hg2; simp [Act.eval, Act.put, Value.cells] at hB2; (try replace hE := hE.trans hE2); (try replace hEr := hEr.trans hE2); (try replace hF := hF.ext hE2); (try replace hM := hM.ext hE2); (try replace hK := hK.ext hE2); (try replace hB2 := hB2.ext hE2); (try replace hB3 := hB3.ext hE2); (try replace hB6 := hB6.ext hE2); (try replace hb2_0 := Ext.cell_some hE2 hb2_0); (try replace hb2_1 := Ext.cell_some hE2 hb2_1); (try replace hb2_2 := Ext.cell_some hE2 hb2_2); (try replace hb3_0 := Ext.cell_some hE2 hb3_0); (try replace hb3_1 := Ext.cell_some hE2 hb3_1); (try replace e2 := Ext.cell_some hE2 e2); (try replace hb6_0 := Ext.cell_some hE2 hb6_0); (try replace hb6_1 := Ext.cell_some hE2 hb6_1); (try replace hb6_2 := Ext.cell_some hE2 hb6_2); have hb2_0 := hB2.cell 0; have hb2_1 := hB2.cell 1; have hb2_2 := hB2.cell 2; simp at hb2_0 hb2_1 hb2_2; clear hE2) | ((with_reducible refine q_box (d := some 3) ?_); intro W3 g3 hE3 hB3 hg3; simp [Act.eval, Act.put, Value.cells] at hB3; (try replace hE := hE.trans hE3); (try replace hEr := hEr.trans hE3); (try replace hF := hF.ext hE3); (try replace hM := hM.ext hE3); (try replace hK := hK.ext hE3); (try replace hB2 := hB2.ext hE3); (try replace hB3 := hB3.ext hE3); (try replace hB6 := hB6.ext hE3); (try replace hb2_0 := Ext.cell_some hE3 hb2_0); (try replace hb2_1 := Ext.cell_some hE3 hb2_1); (try replace hb2_2 := Ext.cell_some hE3 hb2_2); (try replace hb3_0 := Ext.cell_some hE3 hb3_0); (try replace hb3_1 := Ext.cell_some hE3 hb3_1); (try replace e2 := Ext.cell_some hE3 e2); (try replace hb6_0 := Ext.cell_some hE3 hb6_0); (try replace hb6_1 := Ext.cell_some hE3 hb6_1); (try replace hb6_2 := Ext.cell_some hE3 hb6_2); have hb3_0 := hB3.cell 0; have hb3_1 := hB3.cell 1; simp at hb3_0 hb3_1; clear hE3))
                go_quiet (fail)
                (try replace hE := hE.trans ((Ext.refl W6).drewN nq)); (try replace hEr := hEr.trans ((Ext.refl W6).drewN nq)); (try replace hF := hF.ext ((Ext.refl W6).drewN nq)); (try replace hM := hM.ext ((Ext.refl W6).drewN nq)); (try replace hK := hK.ext ((Ext.refl W6).drewN nq)); (try replace hB2 := hB2.ext ((Ext.refl W6).drewN nq)); (try replace hB3 := hB3.ext ((Ext.refl W6).drewN nq)); (try replace hB6 := hB6.ext ((Ext.refl W6).drewN nq)); (try replace hb2_0 := Ext.cell_some ((Ext.refl W6).drewN nq) hb2_0); (try replace hb2_1 := Ext.cell_some ((Ext.refl W6).drewN nq) hb2_1); (try replace hb2_2 := Ext.cell_some ((Ext.refl W6).drewN nq) hb2_2); (try replace hb3_0 := Ext.cell_some ((Ext.refl W6).drewN nq) hb3_0); (try replace hb3_1 := Ext.cell_some ((Ext.refl W6).drewN nq) hb3_1); (try replace e2 := Ext.cell_some ((Ext.refl W6).drewN nq) e2); (try replace hb6_0 := Ext.cell_some ((Ext.refl W6).drewN nq) hb6_0); (try replace hb6_1 := Ext.cell_some ((Ext.refl W6).drewN nq) hb6_1); (try replace hb6_2 := Ext.cell_some ((Ext.refl W6).drewN nq) hb6_2)
                generalize World.drewN W6 nq = WqW6 at *
                go_wp2_with fail
                go_region_held3 (fun w' => w'.cell? ⟨g2, 0, none⟩ = some (fv) ∧ w'.cell? ⟨g2, 1, none⟩ = some (mv) ∧ w'.cell? ⟨g2, 2, none⟩ = some (.int .i64 c.all) ∧ w'.cell? ((⟨g6, 1, none⟩)) = some (.int .i64 s.kept[k].what)) (simp [*]) ((first | (go_at_call 97; ((with_reducible refine (things_any _ c _ (by first | exact CodeV.of hF hM HW.out | exact (CodeV.of hF hM HW.out).d) HbF.out).mono ?_); rintro e Wc6 ⟨rfl, hEc6⟩; (try replace hEc6 := Ext.undrew hEc6); (try replace hE := hE.trans hEc6); (try replace hEr := hEr.trans hEc6); (try replace hF := hF.ext hEc6); (try replace hM := hM.ext hEc6); (try replace hK := hK.ext hEc6); (try replace hB2 := hB2.ext hEc6); (try replace hB3 := hB3.ext hEc6); (try replace hB6 := hB6.ext hEc6); (try replace hb2_0 := Ext.cell_some hEc6 hb2_0); (try replace hb2_1 := Ext.cell_some hEc6 hb2_1); (try replace hb2_2 := Ext.cell_some hEc6 hb2_2); (try replace hb3_0 := Ext.cell_some hEc6 hb3_0); (try replace hb3_1 := Ext.cell_some hEc6 hb3_1); (try replace e2 := Ext.cell_some hEc6 e2); (try replace hb6_0 := Ext.cell_some hEc6 hb6_0); (try replace hb6_1 := Ext.cell_some hEc6 hb6_1); (try replace hb6_2 := Ext.cell_some hEc6 hb6_2))) | ((go_at_call 56; refine (in_any _ _ _ _).mono ?_; rintro e w' ⟨rfl, rfl⟩))))
                go_wp2
                go_ret
                exact ⟨ret_i Hr.out.symm, hE⟩
        · simp only [Bool.not_eq_true] at p1
          have hr := Sheet.err_line hln (by decide) (linesErr_bad hlt (Code.lineErr_no p1) (by decide) Hs.out)
          have Hr := Lib.hid hr
          clear hr hc
          go_wp2_with (first | ((go_at_call 56; refine (in_any _ _ _ _).mono ?_; rintro e w' ⟨rfl, rfl⟩)) | ((with_reducible refine q_load (d := some 22) (hl := eS) ?_ ?_); rfl) | ((with_reducible refine q_newvar (e := 99) (u := 6) (v := .agg #[.int .i64 s.kept[k].no, .int .i64 s.kept[k].what, .int .i64 s.kept[k].sum]) ti99 ?_ ?_ ?_ ?_ ?_ ?_); (intro g; rfl); (intro g; rfl); rfl; rfl; (simp [Value.cells, Value.oneCell']); intro W6 g6 hE6 hB6 hg6; simp [Value.cells] at hB6; (try replace hE := hE.trans hE6); (try replace hEr := hEr.trans hE6); (try replace hF := hF.ext hE6); (try replace hM := hM.ext hE6); (try replace hK := hK.ext hE6); (try replace hB2 := hB2.ext hE6); (try replace hB3 := hB3.ext hE6); (try replace hB6 := hB6.ext hE6); (try replace hb2_0 := Ext.cell_some hE6 hb2_0); (try replace hb2_1 := Ext.cell_some hE6 hb2_1); (try replace hb2_2 := Ext.cell_some hE6 hb2_2); (try replace hb3_0 := Ext.cell_some hE6 hb3_0); (try replace hb3_1 := Ext.cell_some hE6 hb3_1); (try replace e2 := Ext.cell_some hE6 e2); (try replace hb6_0 := Ext.cell_some hE6 hb6_0); (try replace hb6_1 := Ext.cell_some hE6 hb6_1); (try replace hb6_2 := Ext.cell_some hE6 hb6_2); have hb6_0 := hB6.cell 0; have hb6_1 := hB6.cell 1; have hb6_2 := hB6.cell 2; simp at hb6_0 hb6_1 hb6_2; clear hE6) | ((with_reducible refine q_box (d := some 2) ?_); intro W2 g2 hE2 hB2 hg2; simp [Act.eval, Act.put, Value.cells] at hB2; (try replace hE := hE.trans hE2); (try replace hEr := hEr.trans hE2); (try replace hF := hF.ext hE2); (try replace hM := hM.ext hE2); (try replace hK := hK.ext hE2); (try replace hB2 := hB2.ext hE2); (try replace hB3 := hB3.ext hE2); (try replace hB6 := hB6.ext hE2); (try replace hb2_0 := Ext.cell_some hE2 hb2_0); (try replace hb2_1 := Ext.cell_some hE2 hb2_1); (try replace hb2_2 := Ext.cell_some hE2 hb2_2); (try replace hb3_0 := Ext.cell_some hE2 hb3_0); (try replace hb3_1 := Ext.cell_some hE2 hb3_1); (try replace e2 := Ext.cell_some hE2 e2); (try replace hb6_0 := Ext.cell_some hE2 hb6_0); (try replace hb6_1 := Ext.cell_some hE2 hb6_1); (try replace hb6_2 := Ext.cell_some hE2 hb6_2); have hb2_0 := hB2.cell 0; have hb2_1 := hB2.cell 1; have hb2_2 := hB2.cell 2; simp at hb2_0 hb2_1 hb2_2; clear hE2) | ((with_reducible refine q_box (d := some 3) ?_); intro W3 g3 hE3 hB3 hg3; simp [Act.eval, Act.put, Value.cells] at hB3; (try replace hE := hE.trans hE3); (try replace hEr := hEr.trans hE3); (try replace hF := hF.ext hE3); (try replace hM := hM.ext hE3); (try replace hK := hK.ext hE3); (try replace hB2 := hB2.ext hE3); (try replace hB3 := hB3.ext hE3); (try replace hB6 := hB6.ext hE3); (try replace hb2_0 := Ext.cell_some hE3 hb2_0); (try replace hb2_1 := Ext.cell_some hE3 hb2_1); (try replace hb2_2 := Ext.cell_some hE3 hb2_2); (try replace hb3_0 := Ext.cell_some hE3 hb3_0); (try replace hb3_1 := Ext.cell_some hE3 hb3_1); (try replace e2 := Ext.cell_some hE3 e2); (try replace hb6_0 := Ext.cell_some hE3 hb6_0); (try replace hb6_1 := Ext.cell_some hE3 hb6_1); (try replace hb6_2 := Ext.cell_some hE3 hb6_2); have hb3_0 := hB3.cell 0; have hb3_1 := hB3.cell 1; simp at hb3_0 hb3_1; clear hE3))
          go_ret
          exact ⟨ret_i Hr.out.symm, hE⟩
      · obtain rfl : k = s.kept.length := by omega
        have he := linesErr_end Hs.out
        have He := Lib.hid he
        clear he h4
        by_cases hl3 : s.lost.length ≤ 3
        · have hr := Sheet.err_ok hln He.out hl3
          have Hr := Lib.hid hr
          clear hr
          go_wp2_with (first | (go_at_call 47; ((with_reducible refine (Lost_any _ s s.lines.toNat _ (by exact SheetV.of hK) (by omega) (by omega)).mono ?_); rintro e Wc7 ⟨lv, rfl, hLv, hEc7⟩; (try replace hEc7 := Ext.undrew hEc7); (try replace hE := hE.trans hEc7); (try replace hEr := hEr.trans hEc7); (try replace hF := hF.ext hEc7); (try replace hM := hM.ext hEc7); (try replace hK := hK.ext hEc7); (try replace hB2 := hB2.ext hEc7); (try replace hB3 := hB3.ext hEc7); (try replace hB6 := hB6.ext hEc7); (try replace hb2_0 := Ext.cell_some hEc7 hb2_0); (try replace hb2_1 := Ext.cell_some hEc7 hb2_1); (try replace hb2_2 := Ext.cell_some hEc7 hb2_2); (try replace hb3_0 := Ext.cell_some hEc7 hb3_0); (try replace hb3_1 := Ext.cell_some hEc7 hb3_1); (try replace e2 := Ext.cell_some hEc7 e2); (try replace hb6_0 := Ext.cell_some hEc7 hb6_0); (try replace hb6_1 := Ext.cell_some hEc7 hb6_1); (try replace hb6_2 := Ext.cell_some hEc7 hb6_2); obtain ⟨AL, cL, rfl, hL1, hL2, hL3, hL4⟩ := hLv.ints)) | ((with_reducible refine q_box (d := some 2) ?_); intro W2 g2 hE2 hB2 hg2; simp [Act.eval, Act.put, Value.cells] at hB2; (try replace hE := hE.trans hE2); (try replace hEr := hEr.trans hE2); (try replace hF := hF.ext hE2); (try replace hM := hM.ext hE2); (try replace hK := hK.ext hE2); (try replace hB2 := hB2.ext hE2); (try replace hB3 := hB3.ext hE2); (try replace hB6 := hB6.ext hE2); (try replace hb2_0 := Ext.cell_some hE2 hb2_0); (try replace hb2_1 := Ext.cell_some hE2 hb2_1); (try replace hb2_2 := Ext.cell_some hE2 hb2_2); (try replace hb3_0 := Ext.cell_some hE2 hb3_0); (try replace hb3_1 := Ext.cell_some hE2 hb3_1); (try replace e2 := Ext.cell_some hE2 e2); (try replace hb6_0 := Ext.cell_some hE2 hb6_0); (try replace hb6_1 := Ext.cell_some hE2 hb6_1); (try replace hb6_2 := Ext.cell_some hE2 hb6_2); have hb2_0 := hB2.cell 0; have hb2_1 := hB2.cell 1; have hb2_2 := hB2.cell 2; simp at hb2_0 hb2_1 hb2_2; clear hE2) | ((with_reducible refine q_box (d := some 3) ?_); intro W3 g3 hE3 hB3 hg3; simp [Act.eval, Act.put, Value.cells] at hB3; (try replace hE := hE.trans hE3); (try replace hEr := hEr.trans hE3); (try replace hF := hF.ext hE3); (try replace hM := hM.ext hE3); (try replace hK := hK.ext hE3); (try replace hB2 := hB2.ext hE3); (try replace hB3 := hB3.ext hE3); (try replace hB6 := hB6.ext hE3); (try replace hb2_0 := Ext.cell_some hE3 hb2_0); (try replace hb2_1 := Ext.cell_some hE3 hb2_1); (try replace hb2_2 := Ext.cell_some hE3 hb2_2); (try replace hb3_0 := Ext.cell_some hE3 hb3_0); (try replace hb3_1 := Ext.cell_some hE3 hb3_1); (try replace e2 := Ext.cell_some hE3 e2); (try replace hb6_0 := Ext.cell_some hE3 hb6_0); (try replace hb6_1 := Ext.cell_some hE3 hb6_1); (try replace hb6_2 := Ext.cell_some hE3 hb6_2); have hb3_0 := hB3.cell 0; have hb3_1 := hB3.cell 1; simp at hb3_0 hb3_1; clear hE3))
          go_ret
          exact ⟨ret_i Hr.out.symm, hE⟩
        · have hr := Sheet.err_long hln He.out hl3
          have Hr := Lib.hid hr
          clear hr
          go_wp2_with (first | (go_at_call 47; ((with_reducible refine (Lost_any _ s s.lines.toNat _ (by exact SheetV.of hK) (by omega) (by omega)).mono ?_); rintro e Wc8 ⟨lv, rfl, hLv, hEc8⟩; (try replace hEc8 := Ext.undrew hEc8); (try replace hE := hE.trans hEc8); (try replace hEr := hEr.trans hEc8); (try replace hF := hF.ext hEc8); (try replace hM := hM.ext hEc8); (try replace hK := hK.ext hEc8); (try replace hB2 := hB2.ext hEc8); (try replace hB3 := hB3.ext hEc8); (try replace hB6 := hB6.ext hEc8); (try replace hb2_0 := Ext.cell_some hEc8 hb2_0); (try replace hb2_1 := Ext.cell_some hEc8 hb2_1); (try replace hb2_2 := Ext.cell_some hEc8 hb2_2); (try replace hb3_0 := Ext.cell_some hEc8 hb3_0); (try replace hb3_1 := Ext.cell_some hEc8 hb3_1); (try replace e2 := Ext.cell_some hEc8 e2); (try replace hb6_0 := Ext.cell_some hEc8 hb6_0); (try replace hb6_1 := Ext.cell_some hEc8 hb6_1); (try replace hb6_2 := Ext.cell_some hEc8 hb6_2); obtain ⟨AL, cL, rfl, hL1, hL2, hL3, hL4⟩ := hLv.ints)) | ((with_reducible refine q_box (d := some 2) ?_); intro W2 g2 hE2 hB2 hg2; simp [Act.eval, Act.put, Value.cells] at hB2; (try replace hE := hE.trans hE2); (try replace hEr := hEr.trans hE2); (try replace hF := hF.ext hE2); (try replace hM := hM.ext hE2); (try replace hK := hK.ext hE2); (try replace hB2 := hB2.ext hE2); (try replace hB3 := hB3.ext hE2); (try replace hB6 := hB6.ext hE2); (try replace hb2_0 := Ext.cell_some hE2 hb2_0); (try replace hb2_1 := Ext.cell_some hE2 hb2_1); (try replace hb2_2 := Ext.cell_some hE2 hb2_2); (try replace hb3_0 := Ext.cell_some hE2 hb3_0); (try replace hb3_1 := Ext.cell_some hE2 hb3_1); (try replace e2 := Ext.cell_some hE2 e2); (try replace hb6_0 := Ext.cell_some hE2 hb6_0); (try replace hb6_1 := Ext.cell_some hE2 hb6_1); (try replace hb6_2 := Ext.cell_some hE2 hb6_2); have hb2_0 := hB2.cell 0; have hb2_1 := hB2.cell 1; have hb2_2 := hB2.cell 2; simp at hb2_0 hb2_1 hb2_2; clear hE2) | ((with_reducible refine q_box (d := some 3) ?_); intro W3 g3 hE3 hB3 hg3; simp [Act.eval, Act.put, Value.cells] at hB3; (try replace hE := hE.trans hE3); (try replace hEr := hEr.trans hE3); (try replace hF := hF.ext hE3); (try replace hM := hM.ext hE3); (try replace hK := hK.ext hE3); (try replace hB2 := hB2.ext hE3); (try replace hB3 := hB3.ext hE3); (try replace hB6 := hB6.ext hE3); (try replace hb2_0 := Ext.cell_some hE3 hb2_0); (try replace hb2_1 := Ext.cell_some hE3 hb2_1); (try replace hb2_2 := Ext.cell_some hE3 hb2_2); (try replace hb3_0 := Ext.cell_some hE3 hb3_0); (try replace hb3_1 := Ext.cell_some hE3 hb3_1); (try replace e2 := Ext.cell_some hE3 e2); (try replace hb6_0 := Ext.cell_some hE3 hb6_0); (try replace hb6_1 := Ext.cell_some hE3 hb6_1); (try replace hb6_2 := Ext.cell_some hE3 hb6_2); have hb3_0 := hB3.cell 0; have hb3_1 := hB3.cell 1; simp at hb3_0 hb3_1; clear hE3))
          go_ret
          exact ⟨ret_i Hr.out.symm, hE⟩
  · simp only [Bool.not_eq_true] at hln
    have hr := Sheet.err_lines (c := c) hln
    have Hr := Lib.hid hr
    clear hr
    go_enter Tryz.func96, Tryz.ntmps96
    go_wp2_with (first | ((go_at_call 56; refine (in_any _ _ _ _).mono ?_; rintro e w' ⟨rfl, rfl⟩)) | ((with_reducible refine q_box (d := some 2) ?_); intro W2 g2 hE2 hB2 hg2; simp [Act.eval, Act.put, Value.cells] at hB2; (try replace hE := hE.trans hE2); (try replace hEr := hEr.trans hE2); (try replace hF := hF.ext hE2); (try replace hM := hM.ext hE2); (try replace hK := hK.ext hE2); (try replace hB2 := hB2.ext hE2); (try replace hB3 := hB3.ext hE2); (try replace hB6 := hB6.ext hE2); (try replace hb2_0 := Ext.cell_some hE2 hb2_0); (try replace hb2_1 := Ext.cell_some hE2 hb2_1); (try replace hb2_2 := Ext.cell_some hE2 hb2_2); (try replace hb3_0 := Ext.cell_some hE2 hb3_0); (try replace hb3_1 := Ext.cell_some hE2 hb3_1); (try replace e2 := Ext.cell_some hE2 e2); (try replace hb6_0 := Ext.cell_some hE2 hb6_0); (try replace hb6_1 := Ext.cell_some hE2 hb6_1); (try replace hb6_2 := Ext.cell_some hE2 hb6_2); have hb2_0 := hB2.cell 0; have hb2_1 := hB2.cell 1; have hb2_2 := hB2.cell 2; simp at hb2_0 hb2_1 hb2_2; clear hE2) | ((with_reducible refine q_box (d := some 3) ?_); intro W3 g3 hE3 hB3 hg3; simp [Act.eval, Act.put, Value.cells] at hB3; (try replace hE := hE.trans hE3); (try replace hEr := hEr.trans hE3); (try replace hF := hF.ext hE3); (try replace hM := hM.ext hE3); (try replace hK := hK.ext hE3); (try replace hB2 := hB2.ext hE3); (try replace hB3 := hB3.ext hE3); (try replace hB6 := hB6.ext hE3); (try replace hb2_0 := Ext.cell_some hE3 hb2_0); (try replace hb2_1 := Ext.cell_some hE3 hb2_1); (try replace hb2_2 := Ext.cell_some hE3 hb2_2); (try replace hb3_0 := Ext.cell_some hE3 hb3_0); (try replace hb3_1 := Ext.cell_some hE3 hb3_1); (try replace e2 := Ext.cell_some hE3 e2); (try replace hb6_0 := Ext.cell_some hE3 hb6_0); (try replace hb6_1 := Ext.cell_some hE3 hb6_1); (try replace hb6_2 := Ext.cell_some hE3 hb6_2); have hb3_0 := hB3.cell 0; have hb3_1 := hB3.cell 1; simp at hb3_0 hb3_1; clear hE3))
    go_ret
    exact ⟨ret_i Hr.out.symm, hE⟩
end Go.Bp
end
section
/- Plain Lean: which tests fit a sheet. -/
namespace Go.Bp
open Go.RowKit
theorem Ints.cut {w : World} {ad : Addr} {xs : List Int} {cp n : Nat} (h : Ints w (.slice (some ad) xs.length cp) xs) (hn : n ≤ xs.length) : Ints w (.slice (some ad) n cp) (xs.take n) := by
  obtain ⟨A, c, hv, h1, h2, h3, h4⟩ := h
  injection hv with e1 e2 e3
  subst e1 e3
  have hl : (xs.take n).length = n := by rw [List.length_take]; omega
  unfold Ints
  rw [hl]
  refine ⟨some ad, cp, rfl, by omega, h2, by rw [encI_len, hl]; omega, fun h0 => ⟨ad, rfl, ?_⟩⟩
  obtain ⟨ad', he, hc⟩ := h4 (by omega)
  injection he with he
  subst he
  intro j u hu
  refine hc j u ?_
  have : encI (xs.take n) = (encI xs).take n := by simp [encI, List.map_take]
  rw [this, List.getElem?_take] at hu
  split at hu
  · exact hu
  · cases hu
/-- What a sheet that is sound says of a line. -/
structure LineOk (c : Code) (m : Int) (x : Line) : Prop where
  no1 : 1 ≤ x.no
  no2 : x.no ≤ m
  what1 : 0 ≤ x.what
  what2 : x.what < c.things
  sum1 : 0 ≤ x.sum
  sum2 : x.sum ≤ 240
theorem lineErr_zero {c : Code} {m : Int} {prev : Option Int} {x : Line} (h : c.lineErr m prev x = 0) : LineOk c m x ∧ prev.any (fun y => decide (x.no ≤ y)) = false := by
  unfold Code.lineErr at h
  split at h
  · cases h
  · split at h
    · cases h
    · split at h
      · cases h
      · split at h
        · cases h
        · rename_i h1 h2 h3 h4
          simp only [Bool.not_eq_false] at h1 h3 h4
          have h1 := inB_t.1 h1; have h3 := inB_t.1 h3; have h4 := inB_t.1 h4
          exact ⟨⟨h1.1, h1.2, h3.1, by omega, h4.1, h4.2⟩, by simpa using h2⟩
/-- Numbers that rise. -/
def Rises : Option Int → List Line → Prop
  | _, [] => True
  | prev, x :: xs => prev.any (fun y => decide (x.no ≤ y)) = false ∧ Rises (some x.no) xs
theorem linesErr_zero {c : Code} {m : Int} : ∀ {l : List Line} {prev : Option Int}, c.linesErr m prev l = 0 → (∀ x ∈ l, LineOk c m x) ∧ Rises prev l
  | [], _, _ => ⟨by simp, trivial⟩
  | x :: xs, prev, h => by
    unfold Code.linesErr at h
    split at h
    · rename_i hne; exact absurd h hne
    · rename_i hz
      have hz : c.lineErr m prev x = 0 := by simpa using hz
      obtain ⟨h1, h2⟩ := lineErr_zero hz
      obtain ⟨h3, h4⟩ := linesErr_zero h
      refine ⟨fun y hy => ?_, h2, h4⟩
      rcases List.mem_cons.1 hy with rfl | hy
      · exact h1
      · exact h3 y hy
structure Sheet.Ok (c : Code) (s : Sheet) : Prop where
  l1 : 1 ≤ s.lines
  l2 : s.lines ≤ 12
  line : ∀ x ∈ s.kept, LineOk c s.lines x
  rises : Rises none s.kept
  lost3 : s.lost.length ≤ 3
theorem Sheet.ok_of_err {c : Code} {s : Sheet} (h : s.err c = 0) : s.Ok c := by
  unfold Sheet.err at h
  split at h
  · cases h
  · split at h
    · rename_i h1; exact absurd h h1
    · split at h
      · rename_i h1 h2 h3
        simp only [Bool.not_eq_false] at h1
        have h1 := inB_t.1 h1
        obtain ⟨h4, h5⟩ := linesErr_zero (c := c) (m := s.lines) (l := s.kept) (prev := none) (by simpa using h2)
        exact ⟨h1.1, h1.2, h4, h5, h3⟩
      · cases h
/-- Does a line fit a test? -/
def lineFits (c : Code) (t : List Int) (x : Line) : Bool := decide (t.getD (x.no - 1).toNat 0 = x.what) && decide (c.total (t.take x.no.toNat) = x.sum)
def fits (c : Code) (s : Sheet) (t : List Int) : Bool := decide ((t.length : Int) = s.lines) && s.kept.all (lineFits c t)
theorem fits_len {c : Code} {s : Sheet} {t : List Int} (h : (t.length : Int) ≠ s.lines) : fits c s t = false := by simp [fits, h]
theorem fits_no {c : Code} {s : Sheet} {t : List Int} {k : Nat} (hk : k < s.kept.length) (h : lineFits c t s.kept[k] = false) : fits c s t = false := by
  have : s.kept.all (lineFits c t) = false := by rw [List.all_eq_false]; exact ⟨_, List.getElem_mem hk, by simp [h]⟩
  simp [fits, this]
theorem fits_yes {c : Code} {s : Sheet} {t : List Int} (hl : (t.length : Int) = s.lines) (h : ∀ j (hj : j < s.kept.length), lineFits c t s.kept[j] = true) : fits c s t = true := by
  have : s.kept.all (lineFits c t) = true := by
    rw [List.all_eq_true]; intro x hx
    obtain ⟨j, hj, rfl⟩ := List.mem_iff_getElem.1 hx
    exact h j hj
  simp [fits, hl, this]
end Go.Bp
end
