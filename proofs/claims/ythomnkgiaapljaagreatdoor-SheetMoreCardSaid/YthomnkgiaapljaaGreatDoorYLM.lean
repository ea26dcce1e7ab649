import Derived.Test.YthomnkgiaapljaaGreatDoorD10
set_option maxRecDepth 100000
set_option linter.unusedSimpArgs false
set_option linter.unusedVariables false
namespace Go.Bp
open Go.RowKit Go.Proofs
theorem encL_one (xs : List Line) : ∀ u ∈ encL xs, u.oneCell' = true := by
  induction xs with
  | nil => intro u hu; simp [encL] at hu
  | cons x xs ih =>
    intro u hu
    simp only [encL, List.mem_cons] at hu
    rcases hu with rfl | rfl | rfl | hu
    · rfl
    · rfl
    · rfl
    · exact ih u hu
theorem encL_take (xs : List Line) (k : Nat) (hk : k ≤ xs.length) : encL (xs.take k) = (encL xs).take (k * 3) := by
  have h := encL_app (xs.take k) (xs.drop k)
  rw [List.take_append_drop] at h
  have e : (encL (xs.take k)).length = k * 3 := by rw [encL_len, List.length_take]; omega
  rw [h, ← e, List.take_left]
theorem encL_drop (xs : List Line) (k : Nat) (hk : k ≤ xs.length) : encL (xs.drop k) = (encL xs).drop (k * 3) := by
  have h := encL_app (xs.take k) (xs.drop k)
  rw [List.take_append_drop] at h
  have e : (encL (xs.take k)).length = k * 3 := by rw [encL_len, List.length_take]; omega
  rw [h, ← e, List.drop_left]
theorem Lines.cutv {w : World} {ad : Addr} {xs : List Line} {cp n : Nat} (h : Lines w (.slice (some ad) xs.length cp) xs) (hn : n ≤ xs.length) : Lines w (.slice (some ad) n cp) (xs.take n) := by
  obtain ⟨A, c, hv, h1, h2, h3, h4⟩ := h
  obtain ⟨rfl, rfl⟩ : some ad = A ∧ cp = c := by simpa using hv
  have hl : (xs.take n).length = n := by rw [List.length_take]; omega
  unfold Lines
  rw [hl]
  refine ⟨some ad, cp, rfl, by omega, h2, by rw [encL_len, hl], fun h0 => ⟨ad, rfl, ?_⟩⟩
  obtain ⟨ad', e, hc⟩ := h4 (by omega)
  obtain rfl := Option.some.inj e
  intro j u hu
  rw [encL_take xs n hn, List.getElem?_take] at hu
  split at hu
  · exact hc j u hu
  · cases hu
theorem Lines.dropv {w : World} {ad : Addr} {xs : List Line} {cp k : Nat} (h : Lines w (.slice (some ad) xs.length cp) xs) (hk : k ≤ xs.length) :
    Lines w (.slice (some (if cp = k then ad else ad.add (k * 3))) (xs.length - k) (cp - k)) (xs.drop k) := by
  obtain ⟨A, c, hv, h1, h2, h3, h4⟩ := h
  obtain ⟨rfl, rfl⟩ : some ad = A ∧ cp = c := by simpa using hv
  have hl : (xs.drop k).length = xs.length - k := by rw [List.length_drop]
  unfold Lines
  rw [hl]
  refine ⟨_, cp - k, rfl, by omega, by omega, by rw [encL_len, hl], fun h0 => ⟨_, rfl, ?_⟩⟩
  obtain ⟨ad', e, hc⟩ := h4 (by omega)
  obtain rfl := Option.some.inj e
  rw [if_neg (by omega)]
  refine hc.sub (k * 3) fun j u hj => ?_
  rw [encL_drop xs k hk, List.getElem?_drop] at hj
  exact hj
section
variable {ops : Array Oper} {Q : Exit → Act → World → Prop} {a : Act} {w : World} {rest : List Oper}
variable {d : Option Tmp} {ty : TypeId} {pos : String} {after : Array Edge}
theorem q_bs0L (k : ∀ W g, Ext w W → Blk W g 99 #[] → w.heap.size ≤ g → wpList Tryz.prog ops Q rest (a.put d (.slice (some ⟨g, 0, none⟩) 0 0)) W) :
    wpList Tryz.prog ops Q (⟨d, .buildSlice 37 0 #[], ty, pos, after, none⟩ :: rest) a w :=
  q_bslice (by have := run_bslice0 Tryz.prog w Tryz.underlying37 (ti2 ti99); simpa using this) k
theorem q_appLL {s x : Operand} {B : Nat} {v u : Value} {xs ys : List Line} (hs : a.eval s = v) (hO : OwnL B w v xs) (hx : a.eval x = u) (hu : Lines w u ys) (hlen : xs.length + ys.length ≤ 1000000000) (hB : B ≤ w.heap.size)
    (k : ∀ v' W, OwnL B W v' (xs ++ ys) → (∀ w0, Below B w0 w → Below B w0 W) → w.grownBy W v.ownBlock → wpList Tryz.prog ops Q rest (a.put d v') W) :
    wpList Tryz.prog ops Q (⟨d, .call { callee := .builtin .append, args := #[s, x], argTypes := #[37, 37] }, ty, pos, after, none⟩ :: rest) a w := by
  obtain ⟨A, c, rfl, h1, h2, h3, h4⟩ := hu
  refine q_append Tryz.underlying37 ti99 rfl (by decide) hs hO hx h4 h3 (encL_one ys) (by omega) (by unfold maxLen; omega) hB ?_
  intro v' W h1 h2 _
  refine k v' W ?_ (fun w0 h0 => grown_ext h0 hO h2 hB) h2
  unfold OwnL
  rw [encL_app, List.length_append]
  exact h1
theorem sl_dropL {x y : Operand} {gd : Option (Tmp × Bool)} {ad : Addr} {n cp k : Nat} (hx : a.eval x = .slice (some ad) n cp) (hy : a.eval y = .int .i64 (k : Int)) (hk : k ≤ n) (hn : n ≤ cp) :
    (execOp a.eval (⟨d, .slice 37 x (some y) none none, ty, pos, after, gd⟩ : Oper)).run Tryz.prog w = .ok (.value (.slice (some (if cp = k then ad else ad.add (k * 3))) (n - k) (cp - k))) w := by
  unfold execOp
  have g1 : (0 : Int) ≤ k := by omega
  have g2 : (k : Int) ≤ n := by omega
  have g3 : (n : Int) ≤ cp := by omega
  simp only [hx]
  rw [show (Option.map a.eval (some y)) = some (.int .i64 k) by simp [hy]]
  have key : (Instr.sliceAt 37 (.slice (some ad) n cp) (some (.int .i64 k)) none none).run Tryz.prog w = .ok (.slice (some (if cp = k then ad else ad.add (k * 3))) (n - k) (cp - k)) w := by
    obtain ⟨i, hi, hs⟩ := info99
    have h3 : (sizeOf 99).run Tryz.prog w = .ok 3 w := by
      simp [sizeOf, typeInfo, Sem.run, hi, hs]
    simp [asIntOf, Instr.sliceAt, Instr.slice, Instr.sliceBounds, Instr.sliceBound, run_underlying Tryz.underlying37, g1, g2, g3]
    rw [if_pos hk]
    by_cases e : cp = k <;> simp [e, h3]
  rw [Sem.run_bind, show Option.map a.eval none = none from rfl, key]
  rfl
end
theorem OwnL.of_blk0 {B g : Nat} {w : World} (h : Blk w g 99 #[]) (hB : B ≤ g) : OwnL B w (.slice (some ⟨g, 0, none⟩) 0 0) [] :=
  ⟨by simp [encL], .inr ⟨g, 0, _, rfl, hB, h, Nat.le_refl _, by decide, rfl, by simp [encL]⟩⟩
theorem less_of {w : World} {B k : Nat} {v : Value} {s : Sheet} (h : OwnL B w v (([] ++ s.kept.take k) ++ s.kept.drop (k + 1))) :
    SheetV w (.agg #[.int .i64 s.lines, v]) (lessOf s k) := ⟨_, rfl, by have := h.lines; simpa [lessOf] using this⟩
set_option maxHeartbeats 8000000 in
theorem LMore (cv sv : Value) (c : Code) (s : Sheet) (b : Int) (w : World) (h : CodeV w cv c) (hsv : SheetV w sv s) (hb : 0 ≤ b ∧ b ≤ 255) (hv : Env w) :
    Calls Tryz.prog 13 #[cv, sv, .int .u8 b] w fun e w' => e = .returned (.bool true) ∧ Ext w w' := by
  obtain ⟨fv, mv, rfl, hF, hM, hW⟩ := h
  have hE := Ext.refl w
  have HW := Lib.hid hW
  clear hW
  obtain ⟨kv, rfl, hK⟩ := hsv
  obtain ⟨A, cp, rfl, hcp1, hcp2, _, hcp4⟩ := id hK
  obtain ⟨⟨o, e⟩, h1⟩ : ∃ x, outcomeAns c s = x := ⟨_, rfl⟩
  obtain ⟨⟨n, f⟩, h2⟩ : ∃ x, fitsAns c s = x := ⟨_, rfl⟩
  have hee : fittingErr c s = e := by
    unfold outcomeAns at h1
    split at h1
    · exact (Prod.mk.inj h1).2
    · rename_i h0; rw [show fittingErr c s = 0 by simpa using h0]; exact (Prod.mk.inj h1).2
  have H1 := Lib.hid h1; have H2 := Lib.hid h2
  by_cases he : e = 0
  · subst he
    obtain ⟨ho, hs, hn⟩ := fittingErr_zero hee
    have hv1 : validB c s = true := by unfold validB; simp [(fitting_cases.2 hee).1]
    have hfz : f = 0 ∧ n = ((tests c s).length : Int) := by
      unfold fitsAns at h2
      rw [if_neg (by simp [(fitting_cases.2 hee).1])] at h2
      exact ⟨(Prod.mk.inj h2).2.symm, (Prod.mk.inj h2).1.symm⟩
    obtain ⟨rfl, hnt⟩ := hfz
    have hn1 : 1 ≤ n := by rw [hnt]; have := List.length_pos_iff.2 hn; omega
    have hn0 : (n == 0) = false := by rw [beq_eq_false_iff_ne]; omega
    have Hv := Lib.hid hv1
    have hm := hs.l1; have hm2 := hs.l2
    have Hsl := Lib.hid (show s.lines = s.lines.toNat by omega)
    have Hsl2 := Lib.hid (show s.lines.toNat ≤ 1000 by omega)
    have hkl := hs.keptLen
    by_cases hk0 : s.kept.length = 0
    · have q2 : ((s.kept.length : Int) == 0) = true := by simp [hk0]
      have q3 : (s.kept.length : Int) = 0 := by omega
      clear h1 h2 hee hnt hn hs ho hv1 hk0 hm hm2
      go_enter Tryz.func13, Tryz.ntmps13
      go_wp2_with (first | ((go_at_call 30; refine (POutcome_any _ _ c s _ (CodeV.of hF hM HW.out) (SheetV.of hK)).mono ?_; rw [H1.out]; rintro e Wc ⟨rfl, hEx⟩; (try replace hE := Ext.trans hE hEx); (try replace hF := hF.ext hEx); (try replace hM := hM.ext hEx); (try replace hL := hL.ext hEx); (try replace hK := hK.ext hEx); (try replace hB12 := hB12.ext hEx); (try replace hB3 := hB3.ext hEx); (try replace hB4 := hB4.ext hEx); (try replace hL := hL.ext hEx); (try replace hb3_0 := Ext.cell_some hEx hb3_0); (try replace hb3_1 := Ext.cell_some hEx hb3_1); (try replace hb3_2 := Ext.cell_some hEx hb3_2); (try replace hb4_0 := Ext.cell_some hEx hb4_0); (try replace hb4_1 := Ext.cell_some hEx hb4_1); clear hEx)) | ((go_at_call 28; refine (PFits_any _ _ c s _ (CodeV.of hF hM HW.out) (SheetV.of hK)).mono ?_; rw [H2.out]; rintro e Wc ⟨rfl, hEx⟩; (try replace hE := Ext.trans hE hEx); (try replace hF := hF.ext hEx); (try replace hM := hM.ext hEx); (try replace hL := hL.ext hEx); (try replace hK := hK.ext hEx); (try replace hB12 := hB12.ext hEx); (try replace hB3 := hB3.ext hEx); (try replace hB4 := hB4.ext hEx); (try replace hL := hL.ext hEx); (try replace hb3_0 := Ext.cell_some hEx hb3_0); (try replace hb3_1 := Ext.cell_some hEx hb3_1); (try replace hb3_2 := Ext.cell_some hEx hb3_2); (try replace hb4_0 := Ext.cell_some hEx hb4_0); (try replace hb4_1 := Ext.cell_some hEx hb4_1); clear hEx)) | ((go_at_call 46; refine (valid_any _ _ c s _ (CodeV.of hF hM HW.out) (SheetV.of hK)).mono ?_; rw [Hv.out]; rintro e Wc ⟨rfl, hEx⟩; (try replace hE := Ext.trans hE hEx); (try replace hF := hF.ext hEx); (try replace hM := hM.ext hEx); (try replace hL := hL.ext hEx); (try replace hK := hK.ext hEx); (try replace hB12 := hB12.ext hEx); (try replace hB3 := hB3.ext hEx); (try replace hB4 := hB4.ext hEx); (try replace hL := hL.ext hEx); (try replace hb3_0 := Ext.cell_some hEx hb3_0); (try replace hb3_1 := Ext.cell_some hEx hb3_1); (try replace hb3_2 := Ext.cell_some hEx hb3_2); (try replace hb4_0 := Ext.cell_some hEx hb4_0); (try replace hb4_1 := Ext.cell_some hEx hb4_1); clear hEx)) | ((go_at_call 24; refine (Awake_any _ (hv.ext hE)).mono ?_; rintro e Wc ⟨rfl, hEx⟩; (try replace hE := Ext.trans hE hEx); (try replace hF := hF.ext hEx); (try replace hM := hM.ext hEx); (try replace hL := hL.ext hEx); (try replace hK := hK.ext hEx); (try replace hB12 := hB12.ext hEx); (try replace hB3 := hB3.ext hEx); (try replace hB4 := hB4.ext hEx); (try replace hb3_0 := Ext.cell_some hEx hb3_0); (try replace hb3_1 := Ext.cell_some hEx hb3_1); (try replace hb3_2 := Ext.cell_some hEx hb3_2); (try replace hb4_0 := Ext.cell_some hEx hb4_0); (try replace hb4_1 := Ext.cell_some hEx hb4_1); clear hEx)) | ((with_reducible refine q_box (d := some 3) ?_); intro W3 g3 hE3 hB3 hg3; simp [Act.eval, Act.put, Value.cells] at hB3; (try replace hE := hE.trans hE3); (try replace hF := hF.ext hE3); (try replace hM := hM.ext hE3); (try replace hK := hK.ext hE3); (try replace hL := hL.ext hE3); (try replace hB3 := hB3.ext hE3); (try replace hB4 := hB4.ext hE3); (try replace hb3_0 := Ext.cell_some hE3 hb3_0); (try replace hb3_1 := Ext.cell_some hE3 hb3_1); (try replace hb3_2 := Ext.cell_some hE3 hb3_2); (try replace hb4_0 := Ext.cell_some hE3 hb4_0); (try replace hb4_1 := Ext.cell_some hE3 hb4_1); have hb3_0 := hB3.cell 0; have hb3_1 := hB3.cell 1; have hb3_2 := hB3.cell 2; simp at hb3_0 hb3_1 hb3_2; clear hE3) | ((with_reducible refine q_box (d := some 4) ?_); intro W4 g4 hE4 hB4 hg4; simp [Act.eval, Act.put, Value.cells] at hB4; (try replace hE := hE.trans hE4); (try replace hF := hF.ext hE4); (try replace hM := hM.ext hE4); (try replace hK := hK.ext hE4); (try replace hL := hL.ext hE4); (try replace hB3 := hB3.ext hE4); (try replace hB4 := hB4.ext hE4); (try replace hb3_0 := Ext.cell_some hE4 hb3_0); (try replace hb3_1 := Ext.cell_some hE4 hb3_1); (try replace hb3_2 := Ext.cell_some hE4 hb3_2); (try replace hb4_0 := Ext.cell_some hE4 hb4_0); (try replace hb4_1 := Ext.cell_some hE4 hb4_1); have hb4_0 := hB4.cell 0; have hb4_1 := hB4.cell 1; simp at hb4_0 hb4_1; clear hE4))
      go_ret
      exact ⟨rfl, hE⟩
    · have q2 : ((s.kept.length : Int) == 0) = false := by rw [beq_eq_false_iff_ne]; omega
      have q2' : ¬ ((s.kept.length : Int) = 0) := by omega
      by_cases h3 : s.lost.length < 3
      · obtain ⟨k, hk⟩ : ∃ k : Nat, b.tmod (s.kept.length : Int) = (k : Int) := ⟨(b.tmod (s.kept.length : Int)).toNat, by have := Int.tmod_nonneg (s.kept.length : Int) hb.1; omega⟩
        have hkk : k < s.kept.length := by have := Int.tmod_lt_of_pos b (show (0 : Int) < s.kept.length by omega); omega
        obtain ⟨_, _, h4, h5, h6, h7, h8⟩ := more_law hee hkk h3
        have ho1 : outcomeOf c s = o := by unfold outcomeAns at h1; rw [if_neg (by simp [hee])] at h1; exact (Prod.mk.inj h1).1
        obtain ⟨p, hp⟩ : ∃ p, outcomeOf c (lessOf s k) = p := ⟨_, rfl⟩
        obtain ⟨m, hmm⟩ : ∃ m : Int, ((tests c (lessOf s k)).length : Int) = m := ⟨_, rfl⟩
        rw [hp, ho1] at h8; rw [hp] at h4; rw [hmm] at h5
        have hmn : n ≤ m := by omega
        have q4 : ¬ ((3 : Int) ≤ s.lost.length) := by omega
        have hpc : (p = o) ∨ (p = 2 ∧ (2 == o) = false ∧ ¬ ((2 : Int) = o)) := by
          by_cases e : p = o
          · exact .inl e
          · right
            rcases h8 with h | h
            · exact absurd h e
            · subst h; exact ⟨rfl, by simpa using e, e⟩
        have H4 := Lib.hid h4; have H5 := Lib.hid h5
        have z1 : IntKind.i64.wrap b = b := IntWalk.i64_in _ (by omega)
        have z2 : IntKind.i64.wrap (k : Int) = (k : Int) := IntWalk.i64_in _ (by omega)
        have z3 : IntKind.i64.wrap ((k : Int) + 1) = (k : Int) + 1 := IntWalk.i64_in _ (by omega)
        obtain ⟨ad, rfl, _⟩ := hcp4 (by omega)
        have hTk := hK.cutv (n := k) (by omega)
        have hDr := hK.dropv (k := k + 1) (by omega)
        have hlen9 : s.kept.length ≤ 1000 := by omega
        clear h1 h2 h4 h5 h6 h7 h8 hee hnt hn hs ho hv1 hk0 hm hm2 ho1 hp hmm hcp4
        go_enter Tryz.func13, Tryz.ntmps13
        go_wp2_with (first | ((go_at_call 30; refine (POutcome_any _ _ c s _ (CodeV.of hF hM HW.out) (SheetV.of hK)).mono ?_; rw [H1.out]; rintro e Wc ⟨rfl, hEx⟩; (try replace hE := Ext.trans hE hEx); (try replace hF := hF.ext hEx); (try replace hM := hM.ext hEx); (try replace hL := hL.ext hEx); (try replace hK := hK.ext hEx); (try replace hB12 := hB12.ext hEx); (try replace hB3 := hB3.ext hEx); (try replace hB4 := hB4.ext hEx); (try replace hL := hL.ext hEx); (try replace hb3_0 := Ext.cell_some hEx hb3_0); (try replace hb3_1 := Ext.cell_some hEx hb3_1); (try replace hb3_2 := Ext.cell_some hEx hb3_2); (try replace hb4_0 := Ext.cell_some hEx hb4_0); (try replace hb4_1 := Ext.cell_some hEx hb4_1); clear hEx)) | ((go_at_call 28; refine (PFits_any _ _ c s _ (CodeV.of hF hM HW.out) (SheetV.of hK)).mono ?_; rw [H2.out]; rintro e Wc ⟨rfl, hEx⟩; (try replace hE := Ext.trans hE hEx); (try replace hF := hF.ext hEx); (try replace hM := hM.ext hEx); (try replace hL := hL.ext hEx); (try replace hK := hK.ext hEx); (try replace hB12 := hB12.ext hEx); (try replace hB3 := hB3.ext hEx); (try replace hB4 := hB4.ext hEx); (try replace hL := hL.ext hEx); (try replace hb3_0 := Ext.cell_some hEx hb3_0); (try replace hb3_1 := Ext.cell_some hEx hb3_1); (try replace hb3_2 := Ext.cell_some hEx hb3_2); (try replace hb4_0 := Ext.cell_some hEx hb4_0); (try replace hb4_1 := Ext.cell_some hEx hb4_1); clear hEx)) | ((go_at_call 46; refine (valid_any _ _ c s _ (CodeV.of hF hM HW.out) (SheetV.of hK)).mono ?_; rw [Hv.out]; rintro e Wc ⟨rfl, hEx⟩; (try replace hE := Ext.trans hE hEx); (try replace hF := hF.ext hEx); (try replace hM := hM.ext hEx); (try replace hL := hL.ext hEx); (try replace hK := hK.ext hEx); (try replace hB12 := hB12.ext hEx); (try replace hB3 := hB3.ext hEx); (try replace hB4 := hB4.ext hEx); (try replace hL := hL.ext hEx); (try replace hb3_0 := Ext.cell_some hEx hb3_0); (try replace hb3_1 := Ext.cell_some hEx hb3_1); (try replace hb3_2 := Ext.cell_some hEx hb3_2); (try replace hb4_0 := Ext.cell_some hEx hb4_0); (try replace hb4_1 := Ext.cell_some hEx hb4_1); clear hEx)) | ((go_at_call 47; refine (Lost_any _ s s.lines.toNat _ (SheetV.of hK) Hsl.out Hsl2.out).mono ?_; rintro e Wc ⟨v47, rfl, hL, hEx⟩; (try replace hE := Ext.trans hE hEx); (try replace hF := hF.ext hEx); (try replace hM := hM.ext hEx); (try replace hK := hK.ext hEx); (try replace hB12 := hB12.ext hEx); (try replace hB3 := hB3.ext hEx); (try replace hB4 := hB4.ext hEx); (try replace hb3_0 := Ext.cell_some hEx hb3_0); (try replace hb3_1 := Ext.cell_some hEx hb3_1); (try replace hb3_2 := Ext.cell_some hEx hb3_2); (try replace hb4_0 := Ext.cell_some hEx hb4_0); (try replace hb4_1 := Ext.cell_some hEx hb4_1); clear hEx; obtain ⟨A47, c47, hve47, _, _, _, _⟩ := hL.ints; subst hve47)) | ((with_reducible refine q_box (d := some 3) ?_); intro W3 g3 hE3 hB3 hg3; simp [Act.eval, Act.put, Value.cells] at hB3; (try replace hE := hE.trans hE3); (try replace hF := hF.ext hE3); (try replace hM := hM.ext hE3); (try replace hK := hK.ext hE3); (try replace hL := hL.ext hE3); (try replace hB3 := hB3.ext hE3); (try replace hB4 := hB4.ext hE3); (try replace hb3_0 := Ext.cell_some hE3 hb3_0); (try replace hb3_1 := Ext.cell_some hE3 hb3_1); (try replace hb3_2 := Ext.cell_some hE3 hb3_2); (try replace hb4_0 := Ext.cell_some hE3 hb4_0); (try replace hb4_1 := Ext.cell_some hE3 hb4_1); have hb3_0 := hB3.cell 0; have hb3_1 := hB3.cell 1; have hb3_2 := hB3.cell 2; simp at hb3_0 hb3_1 hb3_2; clear hE3) | ((with_reducible refine q_box (d := some 4) ?_); intro W4 g4 hE4 hB4 hg4; simp [Act.eval, Act.put, Value.cells] at hB4; (try replace hE := hE.trans hE4); (try replace hF := hF.ext hE4); (try replace hM := hM.ext hE4); (try replace hK := hK.ext hE4); (try replace hL := hL.ext hE4); (try replace hB3 := hB3.ext hE4); (try replace hB4 := hB4.ext hE4); (try replace hb3_0 := Ext.cell_some hE4 hb3_0); (try replace hb3_1 := Ext.cell_some hE4 hb3_1); (try replace hb3_2 := Ext.cell_some hE4 hb3_2); (try replace hb4_0 := Ext.cell_some hE4 hb4_0); (try replace hb4_1 := Ext.cell_some hE4 hb4_1); have hb4_0 := hB4.cell 0; have hb4_1 := hB4.cell 1; simp at hb4_0 hb4_1; clear hE4))
        have e1 := hb4_0; have e2 := hb4_1
        have hZ := Ext.todrew (Ext.refl Wc)
        have hkcp : k ≤ cp := by omega
        obtain ⟨L92, hL92⟩ : ∃ L, (([] ++ s.kept.take k) ++ s.kept.drop (k + 1)).length = L := ⟨_, rfl⟩
        have HL92 := Lib.hid hL92
        clear hL92
        have hkcp2 : (k : Int) ≤ cp := by omega
        replace hTk := hTk.ext hE; replace hDr := hDr.ext hE
        refine wp_region_tree (.take 0 (.take 1 (.take 3 (.take 4 (.take 5 (.take 6 (.take 8 (.take 9 (.take 10 (.take 11 (.take 12 (.two 2 (.two 7 (.two 13 (.take 14 (.one 15 (.one 16 .nil))) 15 (.one 13 (.take 14 (.one 16 .nil)))) 15 (.one 7 (.one 13 (.take 14 (.one 16 .nil))))) 15 (.one 2 (.one 7 (.one 13 (.take 14 (.one 16 .nil))))))))))))))))) (fun w' => w'.cell? ⟨g4, 0, none⟩ = some (.int .i64 s.lines) ∧ w'.cell? ⟨g4, 1, none⟩ = some (.slice (some ad) s.kept.length cp)) (by kernel_rfl) (by kernel_rfl) (by kernel_rfl) (by kernel_rfl) (fun _ _ _ _ _ h => h) ?_ (fun hHeld => ?_)
        · (first | exact True.intro | ((try dsimp only); (repeat' apply And.intro) <;> first | assumption | (refine Ext.cell_some (Ext.todrew (Ext.refl _)) ?_; assumption)))
        refine t_take (i := 0) (v := ?_) (by (simp only [List.getElem?_toArray, List.getElem?_cons_succ, List.getElem?_cons_zero]); rfl) (by rfl) ?_ (by exact hHeld) ?_
        rotate_left
        · (intro wq hSw; (try dsimp only at hSw); go_simp; (try with_reducible rfl))
        (try simp only [Act.put, List.setIfInBounds_toArray, List.set_cons_zero, List.set_cons_succ])
        refine t_take (i := 1) (v := ?_) (by (simp only [List.getElem?_toArray, List.getElem?_cons_succ, List.getElem?_cons_zero]); rfl) (by rfl) ?_ (by exact hHeld) ?_
        rotate_left
        · (intro wq hSw; (try dsimp only at hSw); go_simp; (try with_reducible rfl))
        (try simp only [Act.put, List.setIfInBounds_toArray, List.set_cons_zero, List.set_cons_succ])
        refine t_take (i := 3) (v := ?_) (by (simp only [List.getElem?_toArray, List.getElem?_cons_succ, List.getElem?_cons_zero]); rfl) (by rfl) ?_ (by exact hHeld) ?_
        rotate_left
        · (intro wq hSw; (try dsimp only at hSw); go_simp; (try with_reducible rfl))
        (try simp only [Act.put, List.setIfInBounds_toArray, List.set_cons_zero, List.set_cons_succ])
        refine t_take (i := 4) (v := ?_) (by (simp only [List.getElem?_toArray, List.getElem?_cons_succ, List.getElem?_cons_zero]); rfl) (by rfl) ?_ (by exact hHeld) ?_
        rotate_left
        · (intro wq hSw; (try dsimp only at hSw); go_simp; (try with_reducible rfl))
        (try simp only [Act.put, List.setIfInBounds_toArray, List.set_cons_zero, List.set_cons_succ])
        refine t_take (i := 5) (v := ?_) (by (simp only [List.getElem?_toArray, List.getElem?_cons_succ, List.getElem?_cons_zero]); rfl) (by rfl) ?_ (by exact hHeld) ?_
        rotate_left
        · (intro wq hSw; (try dsimp only at hSw); go_simp; (try with_reducible rfl))
        (try simp only [Act.put, List.setIfInBounds_toArray, List.set_cons_zero, List.set_cons_succ])
        refine t_take (i := 6) (v := ?_) (by (simp only [List.getElem?_toArray, List.getElem?_cons_succ, List.getElem?_cons_zero]); rfl) (by rfl) ?_ (by exact hHeld) ?_
        rotate_left
        · (intro wq hSw; (try dsimp only at hSw); go_simp; (try with_reducible rfl))
        (try simp only [Act.put, List.setIfInBounds_toArray, List.set_cons_zero, List.set_cons_succ])
        refine t_take (i := 8) (v := ?_) (by (simp only [List.getElem?_toArray, List.getElem?_cons_succ, List.getElem?_cons_zero]); rfl) (by rfl) ?_ (by exact hHeld) ?_
        rotate_left
        · (intro wq hSw; (try dsimp only at hSw); go_simp; (try with_reducible rfl))
        (try simp only [Act.put, List.setIfInBounds_toArray, List.set_cons_zero, List.set_cons_succ])
        refine t_take (i := 9) (v := ?_) (by (simp only [List.getElem?_toArray, List.getElem?_cons_succ, List.getElem?_cons_zero]); rfl) (by rfl) ?_ (by exact hHeld) ?_
        rotate_left
        · (intro wq hSw; (try dsimp only at hSw); go_simp; (try with_reducible rfl))
        (try simp only [Act.put, List.setIfInBounds_toArray, List.set_cons_zero, List.set_cons_succ])
        refine t_take (i := 10) (v := ?_) (by (simp only [List.getElem?_toArray, List.getElem?_cons_succ, List.getElem?_cons_zero]); rfl) (by rfl) ?_ (by exact hHeld) ?_
        rotate_left
        · (intro wq hSw; (try dsimp only at hSw); go_simp; (try with_reducible rfl))
        (try simp only [Act.put, List.setIfInBounds_toArray, List.set_cons_zero, List.set_cons_succ])
        refine t_take (i := 11) (v := ?_) (by (simp only [List.getElem?_toArray, List.getElem?_cons_succ, List.getElem?_cons_zero]); rfl) (by rfl) ?_ (by exact hHeld) ?_
        rotate_left
        · (intro wq hSw; (try dsimp only at hSw); go_simp; (try with_reducible rfl))
        (try simp only [Act.put, List.setIfInBounds_toArray, List.set_cons_zero, List.set_cons_succ])
        refine t_take (i := 12) (v := (Value.slice (some (if cp = k + 1 then ad else ad.add ((k + 1) * 3))) (s.kept.length - (k + 1)) (cp - (k + 1)))) (by (simp only [List.getElem?_toArray, List.getElem?_cons_succ, List.getElem?_cons_zero]); rfl) (by rfl) ?_ (by exact hHeld) ?_
        · (intro wq _; exact sl_dropL (k := k + 1) rfl (by simp [Act.eval]) (by omega) (by omega))
        (try simp only [Act.put, List.setIfInBounds_toArray, List.set_cons_zero, List.set_cons_succ])
        refine t_two (i := 2) (j := 15) (by (simp only [List.getElem?_toArray, List.getElem?_cons_succ, List.getElem?_cons_zero]); rfl) (by (simp only [List.getElem?_toArray, List.getElem?_cons_succ, List.getElem?_cons_zero]); rfl) ?_ ?_
        · (((with_reducible refine q_bs0L (d := some 81) ?_); intro W81 g81 hE81 hB81 hg81; have hq81 := Nat.le_trans hZ.size hg81; replace hZ := hZ.trans hE81; have f1 := Ext.cell_some hZ e1; have f2 := Ext.cell_some hZ e2; (try replace hB12 := hB12.ext hE81)))
          clear hHeld; refine t_next ?_ (fun hHeld => ?_)
          · (first | exact True.intro | ((try dsimp only); (repeat' apply And.intro) <;> first | assumption | (refine Ext.cell_some (Ext.todrew (Ext.refl _)) ?_; assumption)))
          (try simp only [Act.put, List.setIfInBounds_toArray, List.set_cons_zero, List.set_cons_succ])
          refine t_two (i := 7) (j := 15) (by (simp only [List.getElem?_toArray, List.getElem?_cons_succ, List.getElem?_cons_zero]); rfl) (by (simp only [List.getElem?_toArray, List.getElem?_cons_succ, List.getElem?_cons_zero]); rfl) ?_ ?_
          · ((refine q_appLL (d := some 86) rfl (OwnL.of_blk0 hB81 hq81) rfl (hTk.ext hZ) (by simp; omega) hZ.size ?_; intro v86 W86 hO86 hm86 hgr86; replace hZ := (show Ext Wc W86 from hm86 _ hZ); have f1 := Ext.cell_some hZ e1; have f2 := Ext.cell_some hZ e2; (try replace hB12 := hB12.grown hgr86 (fun e => own_ne (OwnL.of_blk0 hB81 hq81) hB12 (.inl (by decide)) e.symm))))
            clear hHeld; refine t_next ?_ (fun hHeld => ?_)
            · (first | exact True.intro | ((try dsimp only); (repeat' apply And.intro) <;> first | assumption | (refine Ext.cell_some (Ext.todrew (Ext.refl _)) ?_; assumption)))
            (try simp only [Act.put, List.setIfInBounds_toArray, List.set_cons_zero, List.set_cons_succ])
            refine t_two (i := 13) (j := 15) (by (simp only [List.getElem?_toArray, List.getElem?_cons_succ, List.getElem?_cons_zero]); rfl) (by (simp only [List.getElem?_toArray, List.getElem?_cons_succ, List.getElem?_cons_zero]); rfl) ?_ ?_
            · ((refine q_appLL (d := some 92) rfl hO86 rfl (hDr.ext hZ) (by simp; omega) hZ.size ?_; intro v92 W92 hO92 hm92 hgr92; replace hZ := (show Ext Wc W92 from hm92 _ hZ); have f1 := Ext.cell_some hZ e1; have f2 := Ext.cell_some hZ e2; (try replace hB12 := hB12.grown hgr92 (fun e => own_ne hO86 hB12 (.inl (by decide)) e.symm)); obtain ⟨A92, c92, e92, _, _, _, _⟩ := hO92.lines; rw [HL92.out] at e92; subst e92))
              clear hHeld; refine t_next ?_ (fun hHeld => ?_)
              · (first | exact True.intro | ((try dsimp only); (repeat' apply And.intro) <;> first | assumption | (refine Ext.cell_some (Ext.todrew (Ext.refl _)) ?_; assumption)))
              (try simp only [Act.put, List.setIfInBounds_toArray, List.set_cons_zero, List.set_cons_succ])
              refine t_take (i := 14) (v := ?_) (by (simp only [List.getElem?_toArray, List.getElem?_cons_succ, List.getElem?_cons_zero]); rfl) (by rfl) ?_ (by exact hHeld) ?_
              rotate_left
              · (intro wq hSw; (try dsimp only at hSw); go_simp; (try with_reducible rfl))
              (try simp only [Act.put, List.setIfInBounds_toArray, List.set_cons_zero, List.set_cons_succ])
              refine t_one (i := 15) (by (simp only [List.getElem?_toArray, List.getElem?_cons_succ, List.getElem?_cons_zero]); rfl) ?_
              (((with_reducible refine q_alloc (d := some 12) ti39 ?_); intro W12 g12 hE12 hB12 hg12; simp [Value.cells] at hB12; have hq12 := Nat.le_trans hZ.size hg12; replace hZ := hZ.trans hE12; have f1 := Ext.cell_some hZ e1; have f2 := Ext.cell_some hZ e2; (try replace hB81 := hB81.ext hE12); (try replace hO86 := hO86.ext hE12); (try replace hO92 := hO92.ext hE12)))
              clear hHeld; refine t_next ?_ (fun hHeld => ?_)
              · (first | exact True.intro | ((try dsimp only); (repeat' apply And.intro) <;> first | assumption | (refine Ext.cell_some (Ext.todrew (Ext.refl _)) ?_; assumption)))
              (try simp only [Act.put, List.setIfInBounds_toArray, List.set_cons_zero, List.set_cons_succ])
              refine t_one (i := 16) (by (simp only [List.getElem?_toArray, List.getElem?_cons_succ, List.getElem?_cons_zero]); rfl) ?_
              (((with_reducible refine q_store (t := 39) (e := 39) (g := g12) (off := 0) (n := 2) (v := .agg #[.int .i64 s.lines, .slice A92 L92 c92]) ?_ ?_ hB12 size39 ?_ ?_ ?_ ?_); rfl; rfl; rfl; (simp [Value.cells]); (simp [Value.cells, Value.oneCell']); intro Wq hBq hgs; simp [putAt, Value.cells] at hBq; have hOq := own_grown hO92 hgs (own_ne hO92 hB12 (.inl (by decide))); replace hZ := (show Ext Wc Wq from below_grown hZ hgs hq12 hZ.size); replace hB12 := hBq; have f1 := Ext.cell_some hZ e1; have f2 := Ext.cell_some hZ e2))
              clear hHeld; refine t_next ?_ (fun hHeld => ?_)
              · (first | exact True.intro | ((try dsimp only); (repeat' apply And.intro) <;> first | assumption | (refine Ext.cell_some (Ext.todrew (Ext.refl _)) ?_; assumption)))
              (try simp only [Act.put, List.setIfInBounds_toArray, List.set_cons_zero, List.set_cons_succ])
              refine t_done ?_
              (replace hE := Ext.trans hE hZ; replace hF := hF.ext hZ; replace hM := hM.ext hZ; replace hb3_0 := Ext.cell_some hZ hb3_0; replace hb3_1 := Ext.cell_some hZ hb3_1; replace hb3_2 := Ext.cell_some hZ hb3_2; have hLess := less_of hOq; clear hZ hK hTk hDr hL f1 f2 e1 e2 hb4_0 hb4_1; rcases hpc with rfl | ⟨rfl, hpc, hpc'⟩; all_goals (go_wp2_with (first | ((with_reducible refine q_load (d := some 96) (hl := ld_sheet hB12) ?_ ?_); rfl) | ((with_reducible refine q_load (d := some 102) (hl := ld_sheet hB12) ?_ ?_); rfl) | (go_at_call 30; refine (POutcome_any _ _ c (lessOf s k) _ (CodeV.of hF hM HW.out) hLess).mono ?_; rw [H4.out]; rintro e Wc ⟨rfl, hEx⟩; (try replace hE := Ext.trans hE hEx); (try replace hF := hF.ext hEx); (try replace hM := hM.ext hEx); (try replace hL := hL.ext hEx); (try replace hK := hK.ext hEx); (try replace hB12 := hB12.ext hEx); (try replace hB3 := hB3.ext hEx); (try replace hB4 := hB4.ext hEx); (try replace hL := hL.ext hEx); (try replace hLess := hLess.ext hEx); (try replace hB12 := hB12.ext hEx); (try replace hb3_0 := Ext.cell_some hEx hb3_0); (try replace hb3_1 := Ext.cell_some hEx hb3_1); (try replace hb3_2 := Ext.cell_some hEx hb3_2); (try replace hb4_0 := Ext.cell_some hEx hb4_0); (try replace hb4_1 := Ext.cell_some hEx hb4_1); clear hEx) | (go_at_call 28; refine (PFits_any _ _ c (lessOf s k) _ (CodeV.of hF hM HW.out) hLess).mono ?_; rw [H5.out]; rintro e Wc ⟨rfl, hEx⟩; (try replace hE := Ext.trans hE hEx); (try replace hF := hF.ext hEx); (try replace hM := hM.ext hEx); (try replace hL := hL.ext hEx); (try replace hK := hK.ext hEx); (try replace hB12 := hB12.ext hEx); (try replace hB3 := hB3.ext hEx); (try replace hB4 := hB4.ext hEx); (try replace hL := hL.ext hEx); (try replace hLess := hLess.ext hEx); (try replace hB12 := hB12.ext hEx); (try replace hb3_0 := Ext.cell_some hEx hb3_0); (try replace hb3_1 := Ext.cell_some hEx hb3_1); (try replace hb3_2 := Ext.cell_some hEx hb3_2); (try replace hb4_0 := Ext.cell_some hEx hb4_0); (try replace hb4_1 := Ext.cell_some hEx hb4_1); clear hEx) | (go_at_call 24; refine (Awake_any _ (hv.ext hE)).mono ?_; rintro e Wc ⟨rfl, hEx⟩; (try replace hE := Ext.trans hE hEx); (try replace hF := hF.ext hEx); (try replace hM := hM.ext hEx); (try replace hL := hL.ext hEx); (try replace hK := hK.ext hEx); (try replace hB12 := hB12.ext hEx); (try replace hB3 := hB3.ext hEx); (try replace hB4 := hB4.ext hEx); (try replace hL := hL.ext hEx); (try replace hLess := hLess.ext hEx); (try replace hB12 := hB12.ext hEx); (try replace hb3_0 := Ext.cell_some hEx hb3_0); (try replace hb3_1 := Ext.cell_some hEx hb3_1); (try replace hb3_2 := Ext.cell_some hEx hb3_2); (try replace hb4_0 := Ext.cell_some hEx hb4_0); (try replace hb4_1 := Ext.cell_some hEx hb4_1); clear hEx))); all_goals (go_ret; exact ⟨rfl, hE⟩))
            · (((with_reducible refine q_alloc (d := some 12) ti39 ?_); intro W12 g12 hE12 hB12 hg12; simp [Value.cells] at hB12; have hq12 := Nat.le_trans hZ.size hg12; replace hZ := hZ.trans hE12; have f1 := Ext.cell_some hZ e1; have f2 := Ext.cell_some hZ e2; (try replace hB81 := hB81.ext hE12); (try replace hO86 := hO86.ext hE12); (try replace hO92 := hO92.ext hE12)))
              clear hHeld; refine t_next ?_ (fun hHeld => ?_)
              · (first | exact True.intro | ((try dsimp only); (repeat' apply And.intro) <;> first | assumption | (refine Ext.cell_some (Ext.todrew (Ext.refl _)) ?_; assumption)))
              (try simp only [Act.put, List.setIfInBounds_toArray, List.set_cons_zero, List.set_cons_succ])
              refine t_one (i := 13) (by (simp only [List.getElem?_toArray, List.getElem?_cons_succ, List.getElem?_cons_zero]); rfl) ?_
              ((refine q_appLL (d := some 92) rfl hO86 rfl (hDr.ext hZ) (by simp; omega) hZ.size ?_; intro v92 W92 hO92 hm92 hgr92; replace hZ := (show Ext Wc W92 from hm92 _ hZ); have f1 := Ext.cell_some hZ e1; have f2 := Ext.cell_some hZ e2; (try replace hB12 := hB12.grown hgr92 (fun e => own_ne hO86 hB12 (.inl (by decide)) e.symm)); obtain ⟨A92, c92, e92, _, _, _, _⟩ := hO92.lines; rw [HL92.out] at e92; subst e92))
              clear hHeld; refine t_next ?_ (fun hHeld => ?_)
              · (first | exact True.intro | ((try dsimp only); (repeat' apply And.intro) <;> first | assumption | (refine Ext.cell_some (Ext.todrew (Ext.refl _)) ?_; assumption)))
              (try simp only [Act.put, List.setIfInBounds_toArray, List.set_cons_zero, List.set_cons_succ])
              refine t_take (i := 14) (v := ?_) (by (simp only [List.getElem?_toArray, List.getElem?_cons_succ, List.getElem?_cons_zero]); rfl) (by rfl) ?_ (by exact hHeld) ?_
              rotate_left
              · (intro wq hSw; (try dsimp only at hSw); go_simp; (try with_reducible rfl))
              (try simp only [Act.put, List.setIfInBounds_toArray, List.set_cons_zero, List.set_cons_succ])
              refine t_one (i := 16) (by (simp only [List.getElem?_toArray, List.getElem?_cons_succ, List.getElem?_cons_zero]); rfl) ?_
              (((with_reducible refine q_store (t := 39) (e := 39) (g := g12) (off := 0) (n := 2) (v := .agg #[.int .i64 s.lines, .slice A92 L92 c92]) ?_ ?_ hB12 size39 ?_ ?_ ?_ ?_); rfl; rfl; rfl; (simp [Value.cells]); (simp [Value.cells, Value.oneCell']); intro Wq hBq hgs; simp [putAt, Value.cells] at hBq; have hOq := own_grown hO92 hgs (own_ne hO92 hB12 (.inl (by decide))); replace hZ := (show Ext Wc Wq from below_grown hZ hgs hq12 hZ.size); replace hB12 := hBq; have f1 := Ext.cell_some hZ e1; have f2 := Ext.cell_some hZ e2))
              clear hHeld; refine t_next ?_ (fun hHeld => ?_)
              · (first | exact True.intro | ((try dsimp only); (repeat' apply And.intro) <;> first | assumption | (refine Ext.cell_some (Ext.todrew (Ext.refl _)) ?_; assumption)))
              (try simp only [Act.put, List.setIfInBounds_toArray, List.set_cons_zero, List.set_cons_succ])
              refine t_done ?_
              (replace hE := Ext.trans hE hZ; replace hF := hF.ext hZ; replace hM := hM.ext hZ; replace hb3_0 := Ext.cell_some hZ hb3_0; replace hb3_1 := Ext.cell_some hZ hb3_1; replace hb3_2 := Ext.cell_some hZ hb3_2; have hLess := less_of hOq; clear hZ hK hTk hDr hL f1 f2 e1 e2 hb4_0 hb4_1; rcases hpc with rfl | ⟨rfl, hpc, hpc'⟩; all_goals (go_wp2_with (first | ((with_reducible refine q_load (d := some 96) (hl := ld_sheet hB12) ?_ ?_); rfl) | ((with_reducible refine q_load (d := some 102) (hl := ld_sheet hB12) ?_ ?_); rfl) | (go_at_call 30; refine (POutcome_any _ _ c (lessOf s k) _ (CodeV.of hF hM HW.out) hLess).mono ?_; rw [H4.out]; rintro e Wc ⟨rfl, hEx⟩; (try replace hE := Ext.trans hE hEx); (try replace hF := hF.ext hEx); (try replace hM := hM.ext hEx); (try replace hL := hL.ext hEx); (try replace hK := hK.ext hEx); (try replace hB12 := hB12.ext hEx); (try replace hB3 := hB3.ext hEx); (try replace hB4 := hB4.ext hEx); (try replace hL := hL.ext hEx); (try replace hLess := hLess.ext hEx); (try replace hB12 := hB12.ext hEx); (try replace hb3_0 := Ext.cell_some hEx hb3_0); (try replace hb3_1 := Ext.cell_some hEx hb3_1); (try replace hb3_2 := Ext.cell_some hEx hb3_2); (try replace hb4_0 := Ext.cell_some hEx hb4_0); (try replace hb4_1 := Ext.cell_some hEx hb4_1); clear hEx) | (go_at_call 28; refine (PFits_any _ _ c (lessOf s k) _ (CodeV.of hF hM HW.out) hLess).mono ?_; rw [H5.out]; rintro e Wc ⟨rfl, hEx⟩; (try replace hE := Ext.trans hE hEx); (try replace hF := hF.ext hEx); (try replace hM := hM.ext hEx); (try replace hL := hL.ext hEx); (try replace hK := hK.ext hEx); (try replace hB12 := hB12.ext hEx); (try replace hB3 := hB3.ext hEx); (try replace hB4 := hB4.ext hEx); (try replace hL := hL.ext hEx); (try replace hLess := hLess.ext hEx); (try replace hB12 := hB12.ext hEx); (try replace hb3_0 := Ext.cell_some hEx hb3_0); (try replace hb3_1 := Ext.cell_some hEx hb3_1); (try replace hb3_2 := Ext.cell_some hEx hb3_2); (try replace hb4_0 := Ext.cell_some hEx hb4_0); (try replace hb4_1 := Ext.cell_some hEx hb4_1); clear hEx) | (go_at_call 24; refine (Awake_any _ (hv.ext hE)).mono ?_; rintro e Wc ⟨rfl, hEx⟩; (try replace hE := Ext.trans hE hEx); (try replace hF := hF.ext hEx); (try replace hM := hM.ext hEx); (try replace hL := hL.ext hEx); (try replace hK := hK.ext hEx); (try replace hB12 := hB12.ext hEx); (try replace hB3 := hB3.ext hEx); (try replace hB4 := hB4.ext hEx); (try replace hL := hL.ext hEx); (try replace hLess := hLess.ext hEx); (try replace hB12 := hB12.ext hEx); (try replace hb3_0 := Ext.cell_some hEx hb3_0); (try replace hb3_1 := Ext.cell_some hEx hb3_1); (try replace hb3_2 := Ext.cell_some hEx hb3_2); (try replace hb4_0 := Ext.cell_some hEx hb4_0); (try replace hb4_1 := Ext.cell_some hEx hb4_1); clear hEx))); all_goals (go_ret; exact ⟨rfl, hE⟩))
          · (((with_reducible refine q_alloc (d := some 12) ti39 ?_); intro W12 g12 hE12 hB12 hg12; simp [Value.cells] at hB12; have hq12 := Nat.le_trans hZ.size hg12; replace hZ := hZ.trans hE12; have f1 := Ext.cell_some hZ e1; have f2 := Ext.cell_some hZ e2; (try replace hB81 := hB81.ext hE12); (try replace hO86 := hO86.ext hE12); (try replace hO92 := hO92.ext hE12)))
            clear hHeld; refine t_next ?_ (fun hHeld => ?_)
            · (first | exact True.intro | ((try dsimp only); (repeat' apply And.intro) <;> first | assumption | (refine Ext.cell_some (Ext.todrew (Ext.refl _)) ?_; assumption)))
            (try simp only [Act.put, List.setIfInBounds_toArray, List.set_cons_zero, List.set_cons_succ])
            refine t_one (i := 7) (by (simp only [List.getElem?_toArray, List.getElem?_cons_succ, List.getElem?_cons_zero]); rfl) ?_
            ((refine q_appLL (d := some 86) rfl (OwnL.of_blk0 hB81 hq81) rfl (hTk.ext hZ) (by simp; omega) hZ.size ?_; intro v86 W86 hO86 hm86 hgr86; replace hZ := (show Ext Wc W86 from hm86 _ hZ); have f1 := Ext.cell_some hZ e1; have f2 := Ext.cell_some hZ e2; (try replace hB12 := hB12.grown hgr86 (fun e => own_ne (OwnL.of_blk0 hB81 hq81) hB12 (.inl (by decide)) e.symm))))
            clear hHeld; refine t_next ?_ (fun hHeld => ?_)
            · (first | exact True.intro | ((try dsimp only); (repeat' apply And.intro) <;> first | assumption | (refine Ext.cell_some (Ext.todrew (Ext.refl _)) ?_; assumption)))
            (try simp only [Act.put, List.setIfInBounds_toArray, List.set_cons_zero, List.set_cons_succ])
            refine t_one (i := 13) (by (simp only [List.getElem?_toArray, List.getElem?_cons_succ, List.getElem?_cons_zero]); rfl) ?_
            ((refine q_appLL (d := some 92) rfl hO86 rfl (hDr.ext hZ) (by simp; omega) hZ.size ?_; intro v92 W92 hO92 hm92 hgr92; replace hZ := (show Ext Wc W92 from hm92 _ hZ); have f1 := Ext.cell_some hZ e1; have f2 := Ext.cell_some hZ e2; (try replace hB12 := hB12.grown hgr92 (fun e => own_ne hO86 hB12 (.inl (by decide)) e.symm)); obtain ⟨A92, c92, e92, _, _, _, _⟩ := hO92.lines; rw [HL92.out] at e92; subst e92))
            clear hHeld; refine t_next ?_ (fun hHeld => ?_)
            · (first | exact True.intro | ((try dsimp only); (repeat' apply And.intro) <;> first | assumption | (refine Ext.cell_some (Ext.todrew (Ext.refl _)) ?_; assumption)))
            (try simp only [Act.put, List.setIfInBounds_toArray, List.set_cons_zero, List.set_cons_succ])
            refine t_take (i := 14) (v := ?_) (by (simp only [List.getElem?_toArray, List.getElem?_cons_succ, List.getElem?_cons_zero]); rfl) (by rfl) ?_ (by exact hHeld) ?_
            rotate_left
            · (intro wq hSw; (try dsimp only at hSw); go_simp; (try with_reducible rfl))
            (try simp only [Act.put, List.setIfInBounds_toArray, List.set_cons_zero, List.set_cons_succ])
            refine t_one (i := 16) (by (simp only [List.getElem?_toArray, List.getElem?_cons_succ, List.getElem?_cons_zero]); rfl) ?_
            (((with_reducible refine q_store (t := 39) (e := 39) (g := g12) (off := 0) (n := 2) (v := .agg #[.int .i64 s.lines, .slice A92 L92 c92]) ?_ ?_ hB12 size39 ?_ ?_ ?_ ?_); rfl; rfl; rfl; (simp [Value.cells]); (simp [Value.cells, Value.oneCell']); intro Wq hBq hgs; simp [putAt, Value.cells] at hBq; have hOq := own_grown hO92 hgs (own_ne hO92 hB12 (.inl (by decide))); replace hZ := (show Ext Wc Wq from below_grown hZ hgs hq12 hZ.size); replace hB12 := hBq; have f1 := Ext.cell_some hZ e1; have f2 := Ext.cell_some hZ e2))
            clear hHeld; refine t_next ?_ (fun hHeld => ?_)
            · (first | exact True.intro | ((try dsimp only); (repeat' apply And.intro) <;> first | assumption | (refine Ext.cell_some (Ext.todrew (Ext.refl _)) ?_; assumption)))
            (try simp only [Act.put, List.setIfInBounds_toArray, List.set_cons_zero, List.set_cons_succ])
            refine t_done ?_
            (replace hE := Ext.trans hE hZ; replace hF := hF.ext hZ; replace hM := hM.ext hZ; replace hb3_0 := Ext.cell_some hZ hb3_0; replace hb3_1 := Ext.cell_some hZ hb3_1; replace hb3_2 := Ext.cell_some hZ hb3_2; have hLess := less_of hOq; clear hZ hK hTk hDr hL f1 f2 e1 e2 hb4_0 hb4_1; rcases hpc with rfl | ⟨rfl, hpc, hpc'⟩; all_goals (go_wp2_with (first | ((with_reducible refine q_load (d := some 96) (hl := ld_sheet hB12) ?_ ?_); rfl) | ((with_reducible refine q_load (d := some 102) (hl := ld_sheet hB12) ?_ ?_); rfl) | (go_at_call 30; refine (POutcome_any _ _ c (lessOf s k) _ (CodeV.of hF hM HW.out) hLess).mono ?_; rw [H4.out]; rintro e Wc ⟨rfl, hEx⟩; (try replace hE := Ext.trans hE hEx); (try replace hF := hF.ext hEx); (try replace hM := hM.ext hEx); (try replace hL := hL.ext hEx); (try replace hK := hK.ext hEx); (try replace hB12 := hB12.ext hEx); (try replace hB3 := hB3.ext hEx); (try replace hB4 := hB4.ext hEx); (try replace hL := hL.ext hEx); (try replace hLess := hLess.ext hEx); (try replace hB12 := hB12.ext hEx); (try replace hb3_0 := Ext.cell_some hEx hb3_0); (try replace hb3_1 := Ext.cell_some hEx hb3_1); (try replace hb3_2 := Ext.cell_some hEx hb3_2); (try replace hb4_0 := Ext.cell_some hEx hb4_0); (try replace hb4_1 := Ext.cell_some hEx hb4_1); clear hEx) | (go_at_call 28; refine (PFits_any _ _ c (lessOf s k) _ (CodeV.of hF hM HW.out) hLess).mono ?_; rw [H5.out]; rintro e Wc ⟨rfl, hEx⟩; (try replace hE := Ext.trans hE hEx); (try replace hF := hF.ext hEx); (try replace hM := hM.ext hEx); (try replace hL := hL.ext hEx); (try replace hK := hK.ext hEx); (try replace hB12 := hB12.ext hEx); (try replace hB3 := hB3.ext hEx); (try replace hB4 := hB4.ext hEx); (try replace hL := hL.ext hEx); (try replace hLess := hLess.ext hEx); (try replace hB12 := hB12.ext hEx); (try replace hb3_0 := Ext.cell_some hEx hb3_0); (try replace hb3_1 := Ext.cell_some hEx hb3_1); (try replace hb3_2 := Ext.cell_some hEx hb3_2); (try replace hb4_0 := Ext.cell_some hEx hb4_0); (try replace hb4_1 := Ext.cell_some hEx hb4_1); clear hEx) | (go_at_call 24; refine (Awake_any _ (hv.ext hE)).mono ?_; rintro e Wc ⟨rfl, hEx⟩; (try replace hE := Ext.trans hE hEx); (try replace hF := hF.ext hEx); (try replace hM := hM.ext hEx); (try replace hL := hL.ext hEx); (try replace hK := hK.ext hEx); (try replace hB12 := hB12.ext hEx); (try replace hB3 := hB3.ext hEx); (try replace hB4 := hB4.ext hEx); (try replace hL := hL.ext hEx); (try replace hLess := hLess.ext hEx); (try replace hB12 := hB12.ext hEx); (try replace hb3_0 := Ext.cell_some hEx hb3_0); (try replace hb3_1 := Ext.cell_some hEx hb3_1); (try replace hb3_2 := Ext.cell_some hEx hb3_2); (try replace hb4_0 := Ext.cell_some hEx hb4_0); (try replace hb4_1 := Ext.cell_some hEx hb4_1); clear hEx))); all_goals (go_ret; exact ⟨rfl, hE⟩))
        · (((with_reducible refine q_alloc (d := some 12) ti39 ?_); intro W12 g12 hE12 hB12 hg12; simp [Value.cells] at hB12; have hq12 := Nat.le_trans hZ.size hg12; replace hZ := hZ.trans hE12; have f1 := Ext.cell_some hZ e1; have f2 := Ext.cell_some hZ e2; (try replace hB81 := hB81.ext hE12); (try replace hO86 := hO86.ext hE12); (try replace hO92 := hO92.ext hE12)))
          clear hHeld; refine t_next ?_ (fun hHeld => ?_)
          · (first | exact True.intro | ((try dsimp only); (repeat' apply And.intro) <;> first | assumption | (refine Ext.cell_some (Ext.todrew (Ext.refl _)) ?_; assumption)))
          (try simp only [Act.put, List.setIfInBounds_toArray, List.set_cons_zero, List.set_cons_succ])
          refine t_one (i := 2) (by (simp only [List.getElem?_toArray, List.getElem?_cons_succ, List.getElem?_cons_zero]); rfl) ?_
          (((with_reducible refine q_bs0L (d := some 81) ?_); intro W81 g81 hE81 hB81 hg81; have hq81 := Nat.le_trans hZ.size hg81; replace hZ := hZ.trans hE81; have f1 := Ext.cell_some hZ e1; have f2 := Ext.cell_some hZ e2; (try replace hB12 := hB12.ext hE81)))
          clear hHeld; refine t_next ?_ (fun hHeld => ?_)
          · (first | exact True.intro | ((try dsimp only); (repeat' apply And.intro) <;> first | assumption | (refine Ext.cell_some (Ext.todrew (Ext.refl _)) ?_; assumption)))
          (try simp only [Act.put, List.setIfInBounds_toArray, List.set_cons_zero, List.set_cons_succ])
          refine t_one (i := 7) (by (simp only [List.getElem?_toArray, List.getElem?_cons_succ, List.getElem?_cons_zero]); rfl) ?_
          ((refine q_appLL (d := some 86) rfl (OwnL.of_blk0 hB81 hq81) rfl (hTk.ext hZ) (by simp; omega) hZ.size ?_; intro v86 W86 hO86 hm86 hgr86; replace hZ := (show Ext Wc W86 from hm86 _ hZ); have f1 := Ext.cell_some hZ e1; have f2 := Ext.cell_some hZ e2; (try replace hB12 := hB12.grown hgr86 (fun e => own_ne (OwnL.of_blk0 hB81 hq81) hB12 (.inl (by decide)) e.symm))))
          clear hHeld; refine t_next ?_ (fun hHeld => ?_)
          · (first | exact True.intro | ((try dsimp only); (repeat' apply And.intro) <;> first | assumption | (refine Ext.cell_some (Ext.todrew (Ext.refl _)) ?_; assumption)))
          (try simp only [Act.put, List.setIfInBounds_toArray, List.set_cons_zero, List.set_cons_succ])
          refine t_one (i := 13) (by (simp only [List.getElem?_toArray, List.getElem?_cons_succ, List.getElem?_cons_zero]); rfl) ?_
          ((refine q_appLL (d := some 92) rfl hO86 rfl (hDr.ext hZ) (by simp; omega) hZ.size ?_; intro v92 W92 hO92 hm92 hgr92; replace hZ := (show Ext Wc W92 from hm92 _ hZ); have f1 := Ext.cell_some hZ e1; have f2 := Ext.cell_some hZ e2; (try replace hB12 := hB12.grown hgr92 (fun e => own_ne hO86 hB12 (.inl (by decide)) e.symm)); obtain ⟨A92, c92, e92, _, _, _, _⟩ := hO92.lines; rw [HL92.out] at e92; subst e92))
          clear hHeld; refine t_next ?_ (fun hHeld => ?_)
          · (first | exact True.intro | ((try dsimp only); (repeat' apply And.intro) <;> first | assumption | (refine Ext.cell_some (Ext.todrew (Ext.refl _)) ?_; assumption)))
          (try simp only [Act.put, List.setIfInBounds_toArray, List.set_cons_zero, List.set_cons_succ])
          refine t_take (i := 14) (v := ?_) (by (simp only [List.getElem?_toArray, List.getElem?_cons_succ, List.getElem?_cons_zero]); rfl) (by rfl) ?_ (by exact hHeld) ?_
          rotate_left
          · (intro wq hSw; (try dsimp only at hSw); go_simp; (try with_reducible rfl))
          (try simp only [Act.put, List.setIfInBounds_toArray, List.set_cons_zero, List.set_cons_succ])
          refine t_one (i := 16) (by (simp only [List.getElem?_toArray, List.getElem?_cons_succ, List.getElem?_cons_zero]); rfl) ?_
          (((with_reducible refine q_store (t := 39) (e := 39) (g := g12) (off := 0) (n := 2) (v := .agg #[.int .i64 s.lines, .slice A92 L92 c92]) ?_ ?_ hB12 size39 ?_ ?_ ?_ ?_); rfl; rfl; rfl; (simp [Value.cells]); (simp [Value.cells, Value.oneCell']); intro Wq hBq hgs; simp [putAt, Value.cells] at hBq; have hOq := own_grown hO92 hgs (own_ne hO92 hB12 (.inl (by decide))); replace hZ := (show Ext Wc Wq from below_grown hZ hgs hq12 hZ.size); replace hB12 := hBq; have f1 := Ext.cell_some hZ e1; have f2 := Ext.cell_some hZ e2))
          clear hHeld; refine t_next ?_ (fun hHeld => ?_)
          · (first | exact True.intro | ((try dsimp only); (repeat' apply And.intro) <;> first | assumption | (refine Ext.cell_some (Ext.todrew (Ext.refl _)) ?_; assumption)))
          (try simp only [Act.put, List.setIfInBounds_toArray, List.set_cons_zero, List.set_cons_succ])
          refine t_done ?_
          (replace hE := Ext.trans hE hZ; replace hF := hF.ext hZ; replace hM := hM.ext hZ; replace hb3_0 := Ext.cell_some hZ hb3_0; replace hb3_1 := Ext.cell_some hZ hb3_1; replace hb3_2 := Ext.cell_some hZ hb3_2; have hLess := less_of hOq; clear hZ hK hTk hDr hL f1 f2 e1 e2 hb4_0 hb4_1; rcases hpc with rfl | ⟨rfl, hpc, hpc'⟩; all_goals (go_wp2_with (first | ((with_reducible refine q_load (d := some 96) (hl := ld_sheet hB12) ?_ ?_); rfl) | ((with_reducible refine q_load (d := some 102) (hl := ld_sheet hB12) ?_ ?_); rfl) | (go_at_call 30; refine (POutcome_any _ _ c (lessOf s k) _ (CodeV.of hF hM HW.out) hLess).mono ?_; rw [H4.out]; rintro e Wc ⟨rfl, hEx⟩; (try replace hE := Ext.trans hE hEx); (try replace hF := hF.ext hEx); (try replace hM := hM.ext hEx); (try replace hL := hL.ext hEx); (try replace hK := hK.ext hEx); (try replace hB12 := hB12.ext hEx); (try replace hB3 := hB3.ext hEx); (try replace hB4 := hB4.ext hEx); (try replace hL := hL.ext hEx); (try replace hLess := hLess.ext hEx); (try replace hB12 := hB12.ext hEx); (try replace hb3_0 := Ext.cell_some hEx hb3_0); (try replace hb3_1 := Ext.cell_some hEx hb3_1); (try replace hb3_2 := Ext.cell_some hEx hb3_2); (try replace hb4_0 := Ext.cell_some hEx hb4_0); (try replace hb4_1 := Ext.cell_some hEx hb4_1); clear hEx) | (go_at_call 28; refine (PFits_any _ _ c (lessOf s k) _ (CodeV.of hF hM HW.out) hLess).mono ?_; rw [H5.out]; rintro e Wc ⟨rfl, hEx⟩; (try replace hE := Ext.trans hE hEx); (try replace hF := hF.ext hEx); (try replace hM := hM.ext hEx); (try replace hL := hL.ext hEx); (try replace hK := hK.ext hEx); (try replace hB12 := hB12.ext hEx); (try replace hB3 := hB3.ext hEx); (try replace hB4 := hB4.ext hEx); (try replace hL := hL.ext hEx); (try replace hLess := hLess.ext hEx); (try replace hB12 := hB12.ext hEx); (try replace hb3_0 := Ext.cell_some hEx hb3_0); (try replace hb3_1 := Ext.cell_some hEx hb3_1); (try replace hb3_2 := Ext.cell_some hEx hb3_2); (try replace hb4_0 := Ext.cell_some hEx hb4_0); (try replace hb4_1 := Ext.cell_some hEx hb4_1); clear hEx) | (go_at_call 24; refine (Awake_any _ (hv.ext hE)).mono ?_; rintro e Wc ⟨rfl, hEx⟩; (try replace hE := Ext.trans hE hEx); (try replace hF := hF.ext hEx); (try replace hM := hM.ext hEx); (try replace hL := hL.ext hEx); (try replace hK := hK.ext hEx); (try replace hB12 := hB12.ext hEx); (try replace hB3 := hB3.ext hEx); (try replace hB4 := hB4.ext hEx); (try replace hL := hL.ext hEx); (try replace hLess := hLess.ext hEx); (try replace hB12 := hB12.ext hEx); (try replace hb3_0 := Ext.cell_some hEx hb3_0); (try replace hb3_1 := Ext.cell_some hEx hb3_1); (try replace hb3_2 := Ext.cell_some hEx hb3_2); (try replace hb4_0 := Ext.cell_some hEx hb4_0); (try replace hb4_1 := Ext.cell_some hEx hb4_1); clear hEx))); all_goals (go_ret; exact ⟨rfl, hE⟩))
      · have q4 : (3 : Int) ≤ s.lost.length := by omega
        clear h1 h2 hee hnt hn hs ho hv1 hk0 hm hm2
        go_enter Tryz.func13, Tryz.ntmps13
        go_wp2_with (first | ((go_at_call 30; refine (POutcome_any _ _ c s _ (CodeV.of hF hM HW.out) (SheetV.of hK)).mono ?_; rw [H1.out]; rintro e Wc ⟨rfl, hEx⟩; (try replace hE := Ext.trans hE hEx); (try replace hF := hF.ext hEx); (try replace hM := hM.ext hEx); (try replace hL := hL.ext hEx); (try replace hK := hK.ext hEx); (try replace hB12 := hB12.ext hEx); (try replace hB3 := hB3.ext hEx); (try replace hB4 := hB4.ext hEx); (try replace hL := hL.ext hEx); (try replace hb3_0 := Ext.cell_some hEx hb3_0); (try replace hb3_1 := Ext.cell_some hEx hb3_1); (try replace hb3_2 := Ext.cell_some hEx hb3_2); (try replace hb4_0 := Ext.cell_some hEx hb4_0); (try replace hb4_1 := Ext.cell_some hEx hb4_1); clear hEx)) | ((go_at_call 28; refine (PFits_any _ _ c s _ (CodeV.of hF hM HW.out) (SheetV.of hK)).mono ?_; rw [H2.out]; rintro e Wc ⟨rfl, hEx⟩; (try replace hE := Ext.trans hE hEx); (try replace hF := hF.ext hEx); (try replace hM := hM.ext hEx); (try replace hL := hL.ext hEx); (try replace hK := hK.ext hEx); (try replace hB12 := hB12.ext hEx); (try replace hB3 := hB3.ext hEx); (try replace hB4 := hB4.ext hEx); (try replace hL := hL.ext hEx); (try replace hb3_0 := Ext.cell_some hEx hb3_0); (try replace hb3_1 := Ext.cell_some hEx hb3_1); (try replace hb3_2 := Ext.cell_some hEx hb3_2); (try replace hb4_0 := Ext.cell_some hEx hb4_0); (try replace hb4_1 := Ext.cell_some hEx hb4_1); clear hEx)) | ((go_at_call 46; refine (valid_any _ _ c s _ (CodeV.of hF hM HW.out) (SheetV.of hK)).mono ?_; rw [Hv.out]; rintro e Wc ⟨rfl, hEx⟩; (try replace hE := Ext.trans hE hEx); (try replace hF := hF.ext hEx); (try replace hM := hM.ext hEx); (try replace hL := hL.ext hEx); (try replace hK := hK.ext hEx); (try replace hB12 := hB12.ext hEx); (try replace hB3 := hB3.ext hEx); (try replace hB4 := hB4.ext hEx); (try replace hL := hL.ext hEx); (try replace hb3_0 := Ext.cell_some hEx hb3_0); (try replace hb3_1 := Ext.cell_some hEx hb3_1); (try replace hb3_2 := Ext.cell_some hEx hb3_2); (try replace hb4_0 := Ext.cell_some hEx hb4_0); (try replace hb4_1 := Ext.cell_some hEx hb4_1); clear hEx)) | ((go_at_call 47; refine (Lost_any _ s s.lines.toNat _ (SheetV.of hK) Hsl.out Hsl2.out).mono ?_; rintro e Wc ⟨v47, rfl, hL, hEx⟩; (try replace hE := Ext.trans hE hEx); (try replace hF := hF.ext hEx); (try replace hM := hM.ext hEx); (try replace hK := hK.ext hEx); (try replace hB12 := hB12.ext hEx); (try replace hB3 := hB3.ext hEx); (try replace hB4 := hB4.ext hEx); (try replace hb3_0 := Ext.cell_some hEx hb3_0); (try replace hb3_1 := Ext.cell_some hEx hb3_1); (try replace hb3_2 := Ext.cell_some hEx hb3_2); (try replace hb4_0 := Ext.cell_some hEx hb4_0); (try replace hb4_1 := Ext.cell_some hEx hb4_1); clear hEx; obtain ⟨A47, c47, hve47, _, _, _, _⟩ := hL.ints; subst hve47)) | ((go_at_call 24; refine (Awake_any _ (hv.ext hE)).mono ?_; rintro e Wc ⟨rfl, hEx⟩; (try replace hE := Ext.trans hE hEx); (try replace hF := hF.ext hEx); (try replace hM := hM.ext hEx); (try replace hL := hL.ext hEx); (try replace hK := hK.ext hEx); (try replace hB12 := hB12.ext hEx); (try replace hB3 := hB3.ext hEx); (try replace hB4 := hB4.ext hEx); (try replace hb3_0 := Ext.cell_some hEx hb3_0); (try replace hb3_1 := Ext.cell_some hEx hb3_1); (try replace hb3_2 := Ext.cell_some hEx hb3_2); (try replace hb4_0 := Ext.cell_some hEx hb4_0); (try replace hb4_1 := Ext.cell_some hEx hb4_1); clear hEx)) | ((with_reducible refine q_box (d := some 3) ?_); intro W3 g3 hE3 hB3 hg3; simp [Act.eval, Act.put, Value.cells] at hB3; (try replace hE := hE.trans hE3); (try replace hF := hF.ext hE3); (try replace hM := hM.ext hE3); (try replace hK := hK.ext hE3); (try replace hL := hL.ext hE3); (try replace hB3 := hB3.ext hE3); (try replace hB4 := hB4.ext hE3); (try replace hb3_0 := Ext.cell_some hE3 hb3_0); (try replace hb3_1 := Ext.cell_some hE3 hb3_1); (try replace hb3_2 := Ext.cell_some hE3 hb3_2); (try replace hb4_0 := Ext.cell_some hE3 hb4_0); (try replace hb4_1 := Ext.cell_some hE3 hb4_1); have hb3_0 := hB3.cell 0; have hb3_1 := hB3.cell 1; have hb3_2 := hB3.cell 2; simp at hb3_0 hb3_1 hb3_2; clear hE3) | ((with_reducible refine q_box (d := some 4) ?_); intro W4 g4 hE4 hB4 hg4; simp [Act.eval, Act.put, Value.cells] at hB4; (try replace hE := hE.trans hE4); (try replace hF := hF.ext hE4); (try replace hM := hM.ext hE4); (try replace hK := hK.ext hE4); (try replace hL := hL.ext hE4); (try replace hB3 := hB3.ext hE4); (try replace hB4 := hB4.ext hE4); (try replace hb3_0 := Ext.cell_some hE4 hb3_0); (try replace hb3_1 := Ext.cell_some hE4 hb3_1); (try replace hb3_2 := Ext.cell_some hE4 hb3_2); (try replace hb4_0 := Ext.cell_some hE4 hb4_0); (try replace hb4_1 := Ext.cell_some hE4 hb4_1); have hb4_0 := hB4.cell 0; have hb4_1 := hB4.cell 1; simp at hb4_0 hb4_1; clear hE4))
        go_ret
        exact ⟨rfl, hE⟩
  · have q1 : (e != 0) = true := by simp [he]
    have q1' : ¬ e = 0 := he
    have ho0 : o = 0 := by unfold outcomeAns at h1; rw [hee, if_pos he] at h1; exact (Prod.mk.inj h1).1.symm
    by_cases h9 : e = 9
    · have ha := fitting_cases.1.1 (hee.trans h9)
      have hfn : n = 0 ∧ f = 0 := by
        unfold fitsAns at h2
        rw [if_neg (by simp [ha.1]), ha.2] at h2
        exact ⟨(Prod.mk.inj h2).1.symm, (Prod.mk.inj h2).2.symm⟩
      obtain ⟨rfl, rfl⟩ := hfn
      subst h9 ho0
      clear h1 h2 hee ha
      go_enter Tryz.func13, Tryz.ntmps13
      go_wp2_with (first | ((go_at_call 30; refine (POutcome_any _ _ c s _ (CodeV.of hF hM HW.out) (SheetV.of hK)).mono ?_; rw [H1.out]; rintro e Wc ⟨rfl, hEx⟩; (try replace hE := Ext.trans hE hEx); (try replace hF := hF.ext hEx); (try replace hM := hM.ext hEx); (try replace hL := hL.ext hEx); (try replace hK := hK.ext hEx); (try replace hB12 := hB12.ext hEx); (try replace hB3 := hB3.ext hEx); (try replace hB4 := hB4.ext hEx); (try replace hL := hL.ext hEx); (try replace hb3_0 := Ext.cell_some hEx hb3_0); (try replace hb3_1 := Ext.cell_some hEx hb3_1); (try replace hb3_2 := Ext.cell_some hEx hb3_2); (try replace hb4_0 := Ext.cell_some hEx hb4_0); (try replace hb4_1 := Ext.cell_some hEx hb4_1); clear hEx)) | ((go_at_call 28; refine (PFits_any _ _ c s _ (CodeV.of hF hM HW.out) (SheetV.of hK)).mono ?_; rw [H2.out]; rintro e Wc ⟨rfl, hEx⟩; (try replace hE := Ext.trans hE hEx); (try replace hF := hF.ext hEx); (try replace hM := hM.ext hEx); (try replace hL := hL.ext hEx); (try replace hK := hK.ext hEx); (try replace hB12 := hB12.ext hEx); (try replace hB3 := hB3.ext hEx); (try replace hB4 := hB4.ext hEx); (try replace hL := hL.ext hEx); (try replace hb3_0 := Ext.cell_some hEx hb3_0); (try replace hb3_1 := Ext.cell_some hEx hb3_1); (try replace hb3_2 := Ext.cell_some hEx hb3_2); (try replace hb4_0 := Ext.cell_some hEx hb4_0); (try replace hb4_1 := Ext.cell_some hEx hb4_1); clear hEx)) | ((go_at_call 24; refine (Awake_any _ (hv.ext hE)).mono ?_; rintro e Wc ⟨rfl, hEx⟩; (try replace hE := Ext.trans hE hEx); (try replace hF := hF.ext hEx); (try replace hM := hM.ext hEx); (try replace hL := hL.ext hEx); (try replace hK := hK.ext hEx); (try replace hB12 := hB12.ext hEx); (try replace hB3 := hB3.ext hEx); (try replace hB4 := hB4.ext hEx); (try replace hb3_0 := Ext.cell_some hEx hb3_0); (try replace hb3_1 := Ext.cell_some hEx hb3_1); (try replace hb3_2 := Ext.cell_some hEx hb3_2); (try replace hb4_0 := Ext.cell_some hEx hb4_0); (try replace hb4_1 := Ext.cell_some hEx hb4_1); clear hEx)) | ((with_reducible refine q_box (d := some 3) ?_); intro W3 g3 hE3 hB3 hg3; simp [Act.eval, Act.put, Value.cells] at hB3; (try replace hE := hE.trans hE3); (try replace hF := hF.ext hE3); (try replace hM := hM.ext hE3); (try replace hK := hK.ext hE3); (try replace hL := hL.ext hE3); (try replace hB3 := hB3.ext hE3); (try replace hB4 := hB4.ext hE3); (try replace hb3_0 := Ext.cell_some hE3 hb3_0); (try replace hb3_1 := Ext.cell_some hE3 hb3_1); (try replace hb3_2 := Ext.cell_some hE3 hb3_2); (try replace hb4_0 := Ext.cell_some hE3 hb4_0); (try replace hb4_1 := Ext.cell_some hE3 hb4_1); have hb3_0 := hB3.cell 0; have hb3_1 := hB3.cell 1; have hb3_2 := hB3.cell 2; simp at hb3_0 hb3_1 hb3_2; clear hE3) | ((with_reducible refine q_box (d := some 4) ?_); intro W4 g4 hE4 hB4 hg4; simp [Act.eval, Act.put, Value.cells] at hB4; (try replace hE := hE.trans hE4); (try replace hF := hF.ext hE4); (try replace hM := hM.ext hE4); (try replace hK := hK.ext hE4); (try replace hL := hL.ext hE4); (try replace hB3 := hB3.ext hE4); (try replace hB4 := hB4.ext hE4); (try replace hb3_0 := Ext.cell_some hE4 hb3_0); (try replace hb3_1 := Ext.cell_some hE4 hb3_1); (try replace hb3_2 := Ext.cell_some hE4 hb3_2); (try replace hb4_0 := Ext.cell_some hE4 hb4_0); (try replace hb4_1 := Ext.cell_some hE4 hb4_1); have hb4_0 := hB4.cell 0; have hb4_1 := hB4.cell 1; simp at hb4_0 hb4_1; clear hE4))
      go_ret
      exact ⟨rfl, hE⟩
    · have hfn : n = 0 ∧ f = e := by
        unfold fitsAns at h2
        by_cases ha : s.asked c = 0
        · exfalso
          unfold fittingErr at hee
          rw [if_neg (by simp [ha])] at hee
          split at hee
          · exact h9 hee.symm
          · exact he hee.symm
        · rw [if_pos ha] at h2
          unfold fittingErr at hee
          rw [if_pos ha] at hee
          exact ⟨(Prod.mk.inj h2).1.symm, by rw [← hee]; exact (Prod.mk.inj h2).2.symm⟩
      obtain ⟨rfl, rfl⟩ := hfn
      subst ho0
      have q9 : (f == 9) = false := by simp [h9]
      clear h1 h2 hee
      go_enter Tryz.func13, Tryz.ntmps13
      go_wp2_with (first | ((go_at_call 30; refine (POutcome_any _ _ c s _ (CodeV.of hF hM HW.out) (SheetV.of hK)).mono ?_; rw [H1.out]; rintro e Wc ⟨rfl, hEx⟩; (try replace hE := Ext.trans hE hEx); (try replace hF := hF.ext hEx); (try replace hM := hM.ext hEx); (try replace hL := hL.ext hEx); (try replace hK := hK.ext hEx); (try replace hB12 := hB12.ext hEx); (try replace hB3 := hB3.ext hEx); (try replace hB4 := hB4.ext hEx); (try replace hL := hL.ext hEx); (try replace hb3_0 := Ext.cell_some hEx hb3_0); (try replace hb3_1 := Ext.cell_some hEx hb3_1); (try replace hb3_2 := Ext.cell_some hEx hb3_2); (try replace hb4_0 := Ext.cell_some hEx hb4_0); (try replace hb4_1 := Ext.cell_some hEx hb4_1); clear hEx)) | ((go_at_call 28; refine (PFits_any _ _ c s _ (CodeV.of hF hM HW.out) (SheetV.of hK)).mono ?_; rw [H2.out]; rintro e Wc ⟨rfl, hEx⟩; (try replace hE := Ext.trans hE hEx); (try replace hF := hF.ext hEx); (try replace hM := hM.ext hEx); (try replace hL := hL.ext hEx); (try replace hK := hK.ext hEx); (try replace hB12 := hB12.ext hEx); (try replace hB3 := hB3.ext hEx); (try replace hB4 := hB4.ext hEx); (try replace hL := hL.ext hEx); (try replace hb3_0 := Ext.cell_some hEx hb3_0); (try replace hb3_1 := Ext.cell_some hEx hb3_1); (try replace hb3_2 := Ext.cell_some hEx hb3_2); (try replace hb4_0 := Ext.cell_some hEx hb4_0); (try replace hb4_1 := Ext.cell_some hEx hb4_1); clear hEx)) | ((go_at_call 24; refine (Awake_any _ (hv.ext hE)).mono ?_; rintro e Wc ⟨rfl, hEx⟩; (try replace hE := Ext.trans hE hEx); (try replace hF := hF.ext hEx); (try replace hM := hM.ext hEx); (try replace hL := hL.ext hEx); (try replace hK := hK.ext hEx); (try replace hB12 := hB12.ext hEx); (try replace hB3 := hB3.ext hEx); (try replace hB4 := hB4.ext hEx); (try replace hb3_0 := Ext.cell_some hEx hb3_0); (try replace hb3_1 := Ext.cell_some hEx hb3_1); (try replace hb3_2 := Ext.cell_some hEx hb3_2); (try replace hb4_0 := Ext.cell_some hEx hb4_0); (try replace hb4_1 := Ext.cell_some hEx hb4_1); clear hEx)) | ((with_reducible refine q_box (d := some 3) ?_); intro W3 g3 hE3 hB3 hg3; simp [Act.eval, Act.put, Value.cells] at hB3; (try replace hE := hE.trans hE3); (try replace hF := hF.ext hE3); (try replace hM := hM.ext hE3); (try replace hK := hK.ext hE3); (try replace hL := hL.ext hE3); (try replace hB3 := hB3.ext hE3); (try replace hB4 := hB4.ext hE3); (try replace hb3_0 := Ext.cell_some hE3 hb3_0); (try replace hb3_1 := Ext.cell_some hE3 hb3_1); (try replace hb3_2 := Ext.cell_some hE3 hb3_2); (try replace hb4_0 := Ext.cell_some hE3 hb4_0); (try replace hb4_1 := Ext.cell_some hE3 hb4_1); have hb3_0 := hB3.cell 0; have hb3_1 := hB3.cell 1; have hb3_2 := hB3.cell 2; simp at hb3_0 hb3_1 hb3_2; clear hE3) | ((with_reducible refine q_box (d := some 4) ?_); intro W4 g4 hE4 hB4 hg4; simp [Act.eval, Act.put, Value.cells] at hB4; (try replace hE := hE.trans hE4); (try replace hF := hF.ext hE4); (try replace hM := hM.ext hE4); (try replace hK := hK.ext hE4); (try replace hL := hL.ext hE4); (try replace hB3 := hB3.ext hE4); (try replace hB4 := hB4.ext hE4); (try replace hb3_0 := Ext.cell_some hE4 hb3_0); (try replace hb3_1 := Ext.cell_some hE4 hb3_1); (try replace hb3_2 := Ext.cell_some hE4 hb3_2); (try replace hb4_0 := Ext.cell_some hE4 hb4_0); (try replace hb4_1 := Ext.cell_some hE4 hb4_1); have hb4_0 := hB4.cell 0; have hb4_1 := hB4.cell 1; simp at hb4_0 hb4_1; clear hE4))
      go_ret
      exact ⟨rfl, hE⟩
end Go.Bp
