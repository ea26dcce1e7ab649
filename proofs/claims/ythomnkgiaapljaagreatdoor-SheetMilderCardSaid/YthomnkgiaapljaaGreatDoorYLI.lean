import Derived.Test.YthomnkgiaapljaaGreatDoorD10
import Derived.Test.YthomnkgiaapljaaGreatDoorD05
set_option maxRecDepth 100000
set_option linter.unusedSimpArgs false
set_option linter.unusedVariables false
namespace Go.Bp
open Go.RowKit Go.Proofs
def OwnF (B : Nat) (w : World) (v : Value) (xs : List Fault) : Prop := w.ownsRow B 74 3 v xs.length (encF xs)
theorem OwnF.ext {B : Nat} {w w' : World} {v : Value} {xs : List Fault} (h : OwnF B w v xs) (e : Ext w w') : OwnF B w' v xs := own_ext h e
theorem OwnF.faults {B : Nat} {w : World} {v : Value} {xs : List Fault} (h : OwnF B w v xs) : Faults w v xs := Sl.of_own h
theorem OwnF.nil (B : Nat) (w : World) : OwnF B w (.slice none 0 0) [] := World.ownsRow_nil w B 74 3
theorem OwnF.lt {B : Nat} {w : World} {v : Value} {xs : List Fault} (h : OwnF B w v xs) : ∀ g, v.ownBlock = some g → g < w.heap.size := fun g hg => (World.ownsRow.lt h g hg).2
theorem size22 : (Tryz.prog.info? 22).map TypeInfo.size = some 1 := by kernel_rfl
theorem ld_fault {w : World} {g : Nat} {a b c : Value} (h : Blk w g 74 #[a, b, c]) : (loadVar 74 ⟨g, 0, none⟩).run Tryz.prog w = .ok (.agg #[a, b, c]) w := by
  obtain ⟨i, hi, hs⟩ := info74
  exact load_struct (cs := [a, b, c]) Tryz.underlying74 hi (by rw [hs]; rfl) (by simpa using h.cells)
section
variable {ops : Array Oper} {Q : Exit → Act → World → Prop} {a : Act} {w : World} {rest : List Oper}
variable {d : Option Tmp} {ty : TypeId} {pos : String} {after : Array Edge}
theorem q_bsF {x : Operand} {p : ByteArray} {q r : Int} (hx : a.eval x = .agg #[.string p, .int .i64 q, .int .i64 r])
    (k : ∀ W g, Ext w W → Blk W g 74 #[.string p, .int .i64 q, .int .i64 r] → w.heap.size ≤ g → wpList Tryz.prog ops Q rest (a.put d (.slice (some ⟨g, 0, none⟩) 1 1)) W) :
    wpList Tryz.prog ops Q (⟨d, .buildSlice 22 1 #[(0, x)], ty, pos, after, none⟩ :: rest) a w :=
  q_bslice (by have := run_bslice3 Tryz.prog w (v := a.eval x) (a := .string p) (b := .int .i64 q) (c := .int .i64 r) Tryz.underlying22 (ti2 ti74) rfl (by rw [hx]; rfl); simpa using this) k
theorem q_appF {s x : Operand} {B g : Nat} {v : Value} {xs : List Fault} {y : Fault} (hs : a.eval s = v) (hO : OwnF B w v xs) (hx : a.eval x = .slice (some ⟨g, 0, none⟩) 1 1) (hb : Blk w g 74 #[.string y.name, .int .i64 y.points, .int .i64 y.limit]) (hlen : xs.length ≤ 1000000000) (hB : B ≤ w.heap.size)
    (k : ∀ v' W, OwnF B W v' (xs ++ [y]) → (∀ w0, Below B w0 w → Below B w0 W) → w.grownBy W v.ownBlock → wpList Tryz.prog ops Q rest (a.put d v') W) :
    wpList Tryz.prog ops Q (⟨d, .call { callee := .builtin .append, args := #[s, x], argTypes := #[22, 22] }, ty, pos, after, none⟩ :: rest) a w := by
  refine q_append Tryz.underlying22 ti74 rfl (by decide) hs hO hx (fun _ => ⟨_, rfl, hb.cells⟩) (by simp) (by simp [Value.oneCell']) (by omega) (by unfold maxLen; omega) hB ?_
  intro v' W h1 h2 _
  refine k v' W ?_ (fun w0 h0 => grown_ext h0 hO h2 hB) h2
  unfold OwnF
  have e : encF (xs ++ [y]) = encF xs ++ [.string y.name, .int .i64 y.points, .int .i64 y.limit] := by rw [encF_app]; rfl
  rw [e]
  simpa using h1
end
theorem mild_num {a : Int} (k : Nat) (ha : 0 ≤ a) (ha2 : a ≤ 255) : ∃ u : Int, a.tdiv ((k : Int) + 1) = u ∧ a / ((k : Int) + 1) = u ∧ 0 ≤ u ∧ u ≤ 255 := by
  have h1 := Int.tdiv_nonneg ha (show (0 : Int) ≤ (k : Int) + 1 by omega)
  have h2 : a.tdiv ((k : Int) + 1) ≤ a := Int.tdiv_le_self _ ha
  exact ⟨_, rfl, (Int.tdiv_eq_ediv_of_nonneg ha).symm, h1, by omega⟩
set_option maxHeartbeats 16000000 in
theorem LMilder (cv xv : Value) (c : Code) (x : Driven) (a0 a1 a2 : Int) (w : World) (h : CodeV w cv c) (hx : DrivenV w xv x) (ha0 : 0 ≤ a0 ∧ a0 ≤ 255) (ha1 : 0 ≤ a1 ∧ a1 ≤ 255) (ha2 : 0 ≤ a2 ∧ a2 ≤ 255) (hv : Env w) :
    Calls Tryz.prog 14 #[cv, xv, .agg #[.int .u8 a0, .int .u8 a1, .int .u8 a2]] w fun e w' => e = .returned (.bool true) ∧ Ext w w' := by
  obtain ⟨fv, mv, rfl, hF, hM, hW⟩ := h
  have hE := Ext.refl w
  have HW := Lib.hid hW
  clear hW
  obtain ⟨AF, cF, rfl, _, f2, _, _⟩ := id hF
  obtain ⟨AM, cM, rfl, _, _, _, _⟩ := id hM
  obtain ⟨wv, rfl, hT, hxo⟩ := hx
  obtain ⟨AT, cT, rfl, _, _, _, _⟩ := id hT
  have hD : DrivenV w (.agg #[.int .u8 x.lines, .slice AT x.what.length cT, .int .u16 x.lost]) x := ⟨_, rfl, hT, hxo⟩
  obtain ⟨⟨y1, y2, er⟩, h1⟩ : ∃ x, c.check = x := ⟨_, rfl⟩
  have H1 := Lib.hid h1
  by_cases he : er = 0
  · have ho := Code.ok_of_check (show c.check.2.2 = 0 by rw [h1]; exact he)
    subst he
    have hd := hxo.drove ho
    obtain ⟨t, ht⟩ : ∃ t, x.test c = t := ⟨_, rfl⟩
    rw [ht] at hd
    have htk := hd.test
    have ht1 := hd.one
    have htl := htk.1
    obtain ⟨h2, h3, h4, h5⟩ := milder_law ho htk ht1 ha0.1 ha1.1
    have hm := mild_milder ho ha0.1 ha1.1
    obtain ⟨p, hp⟩ : ∃ p, c.passed t = p := ⟨_, rfl⟩
    obtain ⟨q, hqq⟩ : ∃ p, (mildOf c a0 a1).passed t = p := ⟨_, rfl⟩
    obtain ⟨al, hal⟩ : ∃ a, mildAll c a0 = a := ⟨_, rfl⟩
    rw [hp] at h2 h4; rw [hqq] at h3 h4
    simp only [hp] at h5
    have hall0 := ho.all0; have hall1 := ho.all1
    have hm0 := Int.tmod_nonneg 50 ha0.1
    have hm1 := Int.tmod_lt_of_pos a0 (show (0 : Int) < 50 by omega)
    have yA : min 240 (c.all + a0 % 50) = al := by
      rw [← hal]; unfold mildAll; rw [Int.tmod_eq_emod_of_nonneg ha0.1]
    have z1 : IntKind.i64.wrap a0 = a0 := IntWalk.i64_in _ (by omega)
    have z2 : IntKind.i64.wrap (a0.tmod 50) = a0.tmod 50 := IntWalk.i64_in _ (by omega)
    have z3 : IntKind.i64.wrap (c.all + a0.tmod 50) = c.all + a0.tmod 50 := IntWalk.i64_in _ (by omega)
    have Ht := Lib.hid ht; have Hj := Lib.hid h2; have Htk := Lib.hid htk; have Ho := Lib.hid ho; have Htl := Lib.hid htl; have Hjd := Lib.hid h3; have Hal := Lib.hid hal; have H5 := Lib.hid h5
    have HWd := Lib.hid (show (mildOf c a0 a1).wf from fun s hs => HW.out s (by rw [← hm.names]; exact hs))
    have hpq : p = false ∨ (p = true ∧ q = true) := by
      cases p
      · exact .inl rfl
      · cases q
        · simp at h4
        · exact .inr ⟨rfl, rfl⟩
    have hnf := ho.nf2
    clear h1 h2 h3 h4 h5 ht hd hp hqq hal htk ho hxo hT hm hm0 hm1
    go_enter Tryz.func14, Tryz.ntmps14
    go_wp2_with (first | ((go_at_call 18; refine (RCheck_any _ c _ (CodeV.of hF hM HW.out)).mono ?_; rw [H1.out]; rintro e Wc ⟨rfl, hEx⟩; (try replace hE := Ext.trans hE hEx); (try replace hF := hF.ext hEx); (try replace hM := hM.ext hEx); (try replace hT := hT.ext hEx); (try replace hI1 := hI1.ext hEx); (try replace hI2 := hI2.ext hEx); (try replace hB3 := hB3.ext hEx); (try replace hB4 := hB4.ext hEx); (try replace hD := hD.ext hEx); (try replace h21 := h21.ext hEx); (try replace hb3_0 := Ext.cell_some hEx hb3_0); (try replace hb3_1 := Ext.cell_some hEx hb3_1); (try replace hb3_2 := Ext.cell_some hEx hb3_2); (try replace hb4_0 := Ext.cell_some hEx hb4_0); (try replace hb4_1 := Ext.cell_some hEx hb4_1); (try replace hb4_2 := Ext.cell_some hEx hb4_2); (try replace hb5_0 := Ext.cell_some hEx hb5_0); (try replace hb5_1 := Ext.cell_some hEx hb5_1); (try replace hb5_2 := Ext.cell_some hEx hb5_2); clear hEx)) | ((go_at_call 44; refine (Whole_any _ _ c x _ (CodeV.of hF hM HW.out) hD Ho.out).mono ?_; rintro e Wc ⟨v1, v2, rfl, ⟨hI1, hI2⟩, hEx⟩; rw [Ht.out] at hI1; (try replace hE := Ext.trans hE hEx); (try replace hF := hF.ext hEx); (try replace hM := hM.ext hEx); (try replace hT := hT.ext hEx); (try replace hB3 := hB3.ext hEx); (try replace hB4 := hB4.ext hEx); (try replace hD := hD.ext hEx); (try replace h21 := h21.ext hEx); (try replace hb3_0 := Ext.cell_some hEx hb3_0); (try replace hb3_1 := Ext.cell_some hEx hb3_1); (try replace hb3_2 := Ext.cell_some hEx hb3_2); (try replace hb4_0 := Ext.cell_some hEx hb4_0); (try replace hb4_1 := Ext.cell_some hEx hb4_1); (try replace hb4_2 := Ext.cell_some hEx hb4_2); (try replace hb5_0 := Ext.cell_some hEx hb5_0); (try replace hb5_1 := Ext.cell_some hEx hb5_1); (try replace hb5_2 := Ext.cell_some hEx hb5_2); clear hEx; obtain ⟨A1, c1, hve1, _, _, _, _⟩ := hI1.ints; subst hve1; obtain ⟨A2, c2, hve2, _, _, _, _⟩ := hI2.ints; subst hve2)) | ((go_at_call 19; refine (PJudge_any _ _ c t _ (CodeV.of hF hM HW.out) hI1.ints).mono ?_; rw [Hj.out]; rintro e WcJ ⟨rfl, hEx⟩; (try replace hE := Ext.trans hE hEx); (try replace hF := hF.ext hEx); (try replace hM := hM.ext hEx); (try replace hT := hT.ext hEx); (try replace hI1 := hI1.ext hEx); (try replace hI2 := hI2.ext hEx); (try replace hB3 := hB3.ext hEx); (try replace hB4 := hB4.ext hEx); (try replace hD := hD.ext hEx); (try replace h21 := h21.ext hEx); (try replace hb3_0 := Ext.cell_some hEx hb3_0); (try replace hb3_1 := Ext.cell_some hEx hb3_1); (try replace hb3_2 := Ext.cell_some hEx hb3_2); (try replace hb4_0 := Ext.cell_some hEx hb4_0); (try replace hb4_1 := Ext.cell_some hEx hb4_1); (try replace hb4_2 := Ext.cell_some hEx hb4_2); (try replace hb5_0 := Ext.cell_some hEx hb5_0); (try replace hb5_1 := Ext.cell_some hEx hb5_1); (try replace hb5_2 := Ext.cell_some hEx hb5_2); clear hEx)) | (((with_reducible refine q_alloc (d := some 14) ti25 ?_); intro W14 g14 hE14 hB14 hg14; simp [Value.cells] at hB14)) | (((with_reducible refine q_store (t := 25) (e := 25) (g := g14) (off := 0) (n := 3) (v := .agg #[.slice none 0 0, .slice AM c.man.length cM, .int .i64 al]) ?_ ?_ hB14 size25 ?_ ?_ ?_ ?_); rfl; rfl; rfl; (simp [Value.cells]); (simp [Value.cells, Value.oneCell']); intro WS hBS hgs; simp [putAt, Value.cells] at hBS; have hES := (show Ext WcJ WS from below_grown hE14 hgs hg14 hE14.size); clear hgs)) | ((with_reducible refine q_box (d := some 3) ?_); intro W3 g3 hE3 hB3 hg3; simp [Act.eval, Act.put, Value.cells] at hB3; (try replace hE := hE.trans hE3); (try replace hF := hF.ext hE3); (try replace hM := hM.ext hE3); (try replace hD := hD.ext hE3); (try replace hI1 := hI1.ext hE3); (try replace hI2 := hI2.ext hE3); (try replace hB3 := hB3.ext hE3); (try replace hB4 := hB4.ext hE3); (try replace hB5 := hB5.ext hE3); (try replace hb3_0 := Ext.cell_some hE3 hb3_0); (try replace hb3_1 := Ext.cell_some hE3 hb3_1); (try replace hb3_2 := Ext.cell_some hE3 hb3_2); (try replace hb4_0 := Ext.cell_some hE3 hb4_0); (try replace hb4_1 := Ext.cell_some hE3 hb4_1); (try replace hb4_2 := Ext.cell_some hE3 hb4_2); (try replace hb5_0 := Ext.cell_some hE3 hb5_0); (try replace hb5_1 := Ext.cell_some hE3 hb5_1); (try replace hb5_2 := Ext.cell_some hE3 hb5_2); have hb3_0 := hB3.cell 0; have hb3_1 := hB3.cell 1; have hb3_2 := hB3.cell 2; simp at hb3_0 hb3_1 hb3_2; clear hE3) | ((with_reducible refine q_box (d := some 4) ?_); intro W4 g4 hE4 hB4 hg4; simp [Act.eval, Act.put, Value.cells] at hB4; (try replace hE := hE.trans hE4); (try replace hF := hF.ext hE4); (try replace hM := hM.ext hE4); (try replace hD := hD.ext hE4); (try replace hI1 := hI1.ext hE4); (try replace hI2 := hI2.ext hE4); (try replace hB3 := hB3.ext hE4); (try replace hB4 := hB4.ext hE4); (try replace hB5 := hB5.ext hE4); (try replace hb3_0 := Ext.cell_some hE4 hb3_0); (try replace hb3_1 := Ext.cell_some hE4 hb3_1); (try replace hb3_2 := Ext.cell_some hE4 hb3_2); (try replace hb4_0 := Ext.cell_some hE4 hb4_0); (try replace hb4_1 := Ext.cell_some hE4 hb4_1); (try replace hb4_2 := Ext.cell_some hE4 hb4_2); (try replace hb5_0 := Ext.cell_some hE4 hb5_0); (try replace hb5_1 := Ext.cell_some hE4 hb5_1); (try replace hb5_2 := Ext.cell_some hE4 hb5_2); have hb4_0 := hB4.cell 0; have hb4_1 := hB4.cell 1; have hb4_2 := hB4.cell 2; simp at hb4_0 hb4_1 hb4_2; clear hE4) | ((with_reducible refine q_box (d := some 5) ?_); intro W5 g5 hE5 hB5 hg5; simp [Act.eval, Act.put, Value.cells] at hB5; (try replace hE := hE.trans hE5); (try replace hF := hF.ext hE5); (try replace hM := hM.ext hE5); (try replace hD := hD.ext hE5); (try replace hI1 := hI1.ext hE5); (try replace hI2 := hI2.ext hE5); (try replace hB3 := hB3.ext hE5); (try replace hB4 := hB4.ext hE5); (try replace hB5 := hB5.ext hE5); (try replace hb3_0 := Ext.cell_some hE5 hb3_0); (try replace hb3_1 := Ext.cell_some hE5 hb3_1); (try replace hb3_2 := Ext.cell_some hE5 hb3_2); (try replace hb4_0 := Ext.cell_some hE5 hb4_0); (try replace hb4_1 := Ext.cell_some hE5 hb4_1); (try replace hb4_2 := Ext.cell_some hE5 hb4_2); (try replace hb5_0 := Ext.cell_some hE5 hb5_0); (try replace hb5_1 := Ext.cell_some hE5 hb5_1); (try replace hb5_2 := Ext.cell_some hE5 hb5_2); have hb5_0 := hB5.cell 0; have hb5_1 := hB5.cell 1; have hb5_2 := hB5.cell 2; simp at hb5_0 hb5_1 hb5_2; clear hE5))
    obtain ⟨AX, cX, hve, _, _, _, f4⟩ := id hF
    obtain ⟨rfl, rfl⟩ : AF = AX ∧ cF = cX := by simpa using hve
    have E0 := Lib.hid hE; have HF := Lib.hid hF; have HM := Lib.hid hM; have HI1 := Lib.hid hI1
    have k30 := Lib.hid hb3_0; have k31 := Lib.hid hb3_1; have k32 := Lib.hid hb3_2; have k51 := Lib.hid hb5_1; have k52 := Lib.hid hb5_2
    have HES := Lib.hid hES; have HBS := Lib.hid hBS; have HyA := Lib.hid yA
    clear hE hF hM hD hI1 hI2 hb3_0 hb3_1 hb3_2 hb4_0 hb4_1 hb4_2 hb5_0 hb5_1 hb5_2 hES hBS hE14 hB14 yA hve z1 z2 z3 hall0 hall1
    go_loopw [15] (fun i Wr => Ext WcJ Wr ∧ ∃ (k : Nat) (fvv : Value), k ≤ c.faults.length ∧ i = .int .i64 k ∧ Blk Wr g14 25 #[fvv, .slice AM c.man.length cM, .int .i64 al] ∧ OwnF WcJ.heap.size Wr fvv (mildTo c a1 k)) (fun i _ => c.faults.length - (intOf i).toNat)
    case atStart => exact ⟨HES.out, 0, _, by omega, rfl, HBS.out, OwnF.nil _ _⟩
    case round =>
      obtain ⟨hEr, k, fvv, hk, rfl, hB14, hO⟩ := hrel
      have b30 := Ext.cell_some hEr k30.out
      by_cases hlt : k < c.faults.length
      · obtain ⟨ad, rfl, hca⟩ := f4 (by omega)
        have hcf := hca.ext hEr
        have hlim := Ho.out.lim k hlt
        obtain ⟨u, w1, w2, w3, w4⟩ := mild_num k ha1.1 ha1.2
        obtain ⟨fn, hfn⟩ : ∃ y, c.faults[k] = y := ⟨_, rfl⟩
        have hldf := ld_f hcf hlt
        rw [hfn] at hldf hlim
        obtain ⟨lm, hlm⟩ : ∃ m, mildLim fn a1 k = m := ⟨_, rfl⟩
        obtain ⟨r, hr⟩ : ∃ r, u.tmod 3 = r := ⟨_, rfl⟩
        have hr0 := Int.tmod_nonneg 3 w3
        have hr1 := Int.tmod_lt_of_pos u (show (0 : Int) < 3 by omega)
        rw [hr] at hr0 hr1
        have w7 : min 12 (fn.limit + r) = lm := by
          rw [← hlm]; unfold mildLim; rw [w1, hr]
        have w5 : IntKind.i64.wrap u = u := IntWalk.i64_in _ (by omega)
        have w6 : IntKind.i64.wrap r = r := IntWalk.i64_in _ (by omega)
        have w8 : IntKind.i64.wrap (fn.limit + r) = fn.limit + r := IntWalk.i64_in _ (by omega)
        have hsn : mildTo c a1 (k + 1) = mildTo c a1 k ++ [⟨fn.name, fn.points, lm⟩] := by rw [mildTo_succ c a1 hlt, hfn, hlm]
        have Hsn := Lib.hid hsn; have Hln := Lib.hid (mildTo_len c a1 k)
        have z4 : IntKind.i64.wrap ((k : Int) + 1) = (k : Int) + 1 := IntWalk.i64_in _ (by omega)
        have z5 : IntKind.i64.wrap a1 = a1 := IntWalk.i64_in _ (by omega)
        have z6 : ((k : Int) + 1 == 0) = false := by rw [beq_eq_false_iff_ne]; omega
        have z7 : ¬ ((k : Int) + 1 = 0) := by omega
        have hq14 : WcJ.heap.size ≤ g14 := hg14
        clear hsn hlm hfn hca f4
        go_wp2_with (first | ((with_reducible refine q_load (d := some 70) (hl := hldf) ?_ ?_); rfl) | ((with_reducible refine q_alloc (d := some 16) ti74 ?_); intro W16 g16 hE16 hB16 hg16; simp [Value.cells] at hB16; have hne : g14 ≠ g16 := (by have := hB14.lt; omega); have hno : fvv.ownBlock ≠ some g16 := (fun e => by have := hO.lt _ e; omega); have hq16 := Nat.le_trans hEr.size hg16; replace hB14 := hB14.ext hE16; replace hO := hO.ext hE16; replace hEr := Ext.trans hEr hE16; clear hE16 hg16) | ((with_reducible refine q_store (t := 74) (e := 74) (g := g16) (off := 0) (n := 3) (v := .agg #[.string fn.name, .int .i64 fn.points, .int .i64 fn.limit]) ?_ ?_ hB16 size74 ?_ ?_ ?_ ?_); rfl; rfl; rfl; (simp [Value.cells]); (simp [Value.cells, Value.oneCell']); intro Wp hBp hgs; simp [putAt, Value.cells] at hBp; replace hB14 := hB14.grown hgs (fun e => hne (Option.some.inj e)); replace hO := (show OwnF _ Wp _ _ from own_grown hO hgs hno); replace hEr := (show Ext WcJ Wp from below_grown hEr hgs hq16 hEr.size); replace hB16 := hBp; clear hgs))
        have e162 := hB16.cell 2; have e51 := Ext.cell_some hEr k51.out
        simp at e162
        refine wp_region_tree (.take 0 (.take 2 (.take 3 (.take 4 (.take 5 (.take 6 (.take 7 (.take 8 (.one 1 (.take 9 (.take 10 (.take 11 (.one 12 .nil))))))))))))) (fun w' => w'.cell? ⟨g5, 1, none⟩ = some (.int .u8 a1)) (by kernel_rfl) (by kernel_rfl) (by kernel_rfl) (by kernel_rfl) (fun _ _ _ _ _ h => h) ?_ (fun hHeld => ?_)
        · (first | exact True.intro | ((try dsimp only); (repeat' apply And.intro) <;> first | assumption | (refine Ext.cell_some (Ext.todrew (Ext.refl _)) ?_; assumption)))
        refine t_take (i := 0) (v := ?_) (by (simp only [List.getElem?_toArray, List.getElem?_cons_succ, List.getElem?_cons_zero]); rfl) (by rfl) ?_ (by exact hHeld) ?_
        rotate_left
        · (intro wq hSw; (try dsimp only at hSw); go_simp; (try with_reducible rfl))
        (try simp only [Act.put, List.setIfInBounds_toArray, List.set_cons_zero, List.set_cons_succ])
        refine t_take (i := 2) (v := ?_) (by (simp only [List.getElem?_toArray, List.getElem?_cons_succ, List.getElem?_cons_zero]); rfl) (by rfl) ?_ (by exact hHeld) ?_
        rotate_left
        · (intro wq hSw; (try dsimp only at hSw); go_simp; (try with_reducible rfl))
        (try simp only [Act.put, List.setIfInBounds_toArray, List.set_cons_zero, List.set_cons_succ])
        refine t_take (i := 3) (v := ?_) (by (simp only [List.getElem?_toArray, List.getElem?_cons_succ, List.getElem?_cons_zero]); rfl) (by rfl) ?_ (by exact hHeld) ?_
        rotate_left
        · (intro wq hSw; (try dsimp only at hSw); go_simp; (try with_reducible rfl))
        (try simp only [Act.put, List.setIfInBounds_toArray, List.set_cons_zero, List.set_cons_succ])
        refine t_take (i := 4) (v := ?_) (by (simp only [List.getElem?_toArray, List.getElem?_cons_succ, List.getElem?_cons_zero]); rfl) (by rfl) ?_ (by exact hHeld) ?_
        rotate_left
        · (intro wq hSw; (try dsimp only at hSw); go_simp; (try with_reducible rfl))
        (try simp only [Act.put, List.setIfInBounds_toArray, List.set_cons_zero, List.set_cons_succ])
        refine t_take (i := 5) (v := ?_) (by (simp only [List.getElem?_toArray, List.getElem?_cons_succ, List.getElem?_cons_zero]); rfl) (by rfl) ?_ (by exact hHeld) ?_
        rotate_left
        · (intro wq hSw; (try dsimp only at hSw); go_simp; (try with_reducible rfl))
        (try simp only [Act.put, List.setIfInBounds_toArray, List.set_cons_zero, List.set_cons_succ])
        refine t_take (i := 6) (v := ?_) (by (simp only [List.getElem?_toArray, List.getElem?_cons_succ, List.getElem?_cons_zero]); rfl) (by rfl) ?_ (by exact hHeld) ?_
        rotate_left
        · (intro wq hSw; (try dsimp only at hSw); go_simp; (try with_reducible rfl))
        (try simp only [Act.put, List.setIfInBounds_toArray, List.set_cons_zero, List.set_cons_succ])
        refine t_take (i := 7) (v := ?_) (by (simp only [List.getElem?_toArray, List.getElem?_cons_succ, List.getElem?_cons_zero]); rfl) (by rfl) ?_ (by exact hHeld) ?_
        rotate_left
        · (intro wq hSw; (try dsimp only at hSw); go_simp; (try with_reducible rfl))
        (try simp only [Act.put, List.setIfInBounds_toArray, List.set_cons_zero, List.set_cons_succ])
        refine t_take (i := 8) (v := ?_) (by (simp only [List.getElem?_toArray, List.getElem?_cons_succ, List.getElem?_cons_zero]); rfl) (by rfl) ?_ (by exact hHeld) ?_
        rotate_left
        · (intro wq hSw; (try dsimp only at hSw); go_simp; (try with_reducible rfl))
        (try simp only [Act.put, List.setIfInBounds_toArray, List.set_cons_zero, List.set_cons_succ])
        refine t_one (i := 1) (by (simp only [List.getElem?_toArray, List.getElem?_cons_succ, List.getElem?_cons_zero]); rfl) ?_
        (((with_reducible refine q_load (d := some 72) (p := ⟨g16, 2, none⟩) (v := .int .i64 fn.limit) ?_ ?_ ?_); rfl; exact load_one Tryz.underlying3 rfl e162))
        clear hHeld; refine t_next ?_ (fun hHeld => ?_)
        · (first | exact True.intro | ((try dsimp only); (repeat' apply And.intro) <;> first | assumption | (refine Ext.cell_some (Ext.todrew (Ext.refl _)) ?_; assumption)))
        (try simp only [Act.put, List.setIfInBounds_toArray, List.set_cons_zero, List.set_cons_succ])
        refine t_take (i := 9) (v := ?_) (by (simp only [List.getElem?_toArray, List.getElem?_cons_succ, List.getElem?_cons_zero]); rfl) (by rfl) ?_ (by exact hHeld) ?_
        rotate_left
        · (intro wq hSw; (try dsimp only at hSw); go_simp; (try with_reducible rfl))
        (try simp only [Act.put, List.setIfInBounds_toArray, List.set_cons_zero, List.set_cons_succ])
        refine t_take (i := 10) (v := ?_) (by (simp only [List.getElem?_toArray, List.getElem?_cons_succ, List.getElem?_cons_zero]); rfl) (by rfl) ?_ (by exact hHeld) ?_
        rotate_left
        · (intro wq hSw; (try dsimp only at hSw); go_simp; (try with_reducible rfl))
        (try simp only [Act.put, List.setIfInBounds_toArray, List.set_cons_zero, List.set_cons_succ])
        refine t_take (i := 11) (v := ?_) (by (simp only [List.getElem?_toArray, List.getElem?_cons_succ, List.getElem?_cons_zero]); rfl) (by rfl) ?_ (by exact hHeld) ?_
        rotate_left
        · (intro wq hSw; (try dsimp only at hSw); go_simp; (try with_reducible rfl))
        (try simp only [Act.put, List.setIfInBounds_toArray, List.set_cons_zero, List.set_cons_succ])
        refine t_one (i := 12) (by (simp only [List.getElem?_toArray, List.getElem?_cons_succ, List.getElem?_cons_zero]); rfl) ?_
        (((with_reducible refine q_store1 (t := 3) (e := 74) (g := g16) (off := 2) (v := .int .i64 lm) ?_ ?_ hB16.d size3 ?_ ?_ ?_ ?_); rfl; rfl; rfl; (simp); rfl; intro Ws hBs hgs; simp at hBs; have hEs := (show Ext WcJ Ws from below_grown (Ext.trans hEr (Ext.todrew (Ext.refl Wp))) hgs hq16 (Ext.trans hEr (Ext.todrew (Ext.refl Wp))).size); have f51 := Ext.cell_some hEs k51.out))
        clear hHeld; refine t_next ?_ (fun hHeld => ?_)
        · (first | exact True.intro | ((try dsimp only); (repeat' apply And.intro) <;> first | assumption | (refine Ext.cell_some (Ext.todrew (Ext.refl _)) ?_; assumption)))
        (try simp only [Act.put, List.setIfInBounds_toArray, List.set_cons_zero, List.set_cons_succ])
        refine t_done ?_
        (have hZd := Ext.todrew (Ext.refl Wp); have hB14 := (hB14.ext hZd).grown hgs (fun e => hne (Option.some.inj e)); have hO := (show OwnF _ Ws _ _ from own_grown (hO.ext hZd) hgs hno); have hEr := (show Ext WcJ Ws from below_grown (Ext.trans hEr hZd) hgs hq16 (Ext.trans hEr hZd).size); have hB16 := hBs; clear hgs hBs; have e14 := hB14.cell 0; simp at e14; obtain ⟨AO, cO, rfl, _, _, _, _⟩ := hO.faults; go_wp2_with (first | ((with_reducible refine q_load (d := some 85) (hl := ld_fault hB16) ?_ ?_); rfl) | ((with_reducible refine q_bsF (d := some 86) (p := fn.name) (q := fn.points) (r := lm) ?_ ?_); rfl; intro W86 g86 hE86 hB86 hg86; replace hB14 := hB14.ext hE86; replace hO := hO.ext hE86; replace hEr := Ext.trans hEr hE86; clear hE86 hg86) | ((with_reducible refine q_appF (d := some 87) (y := ⟨fn.name, fn.points, lm⟩) ?_ hO ?_ hB86 ?_ ?_ ?_); rfl; rfl; (have := Hln.out; omega); exact hEr.size; intro v87 W87 hO87 hm87 hgr87; replace hB14 := hB14.grown hgr87 (fun e => own_ne hO hB14 (.inl (by decide)) e.symm); replace hEr := (show Ext WcJ W87 from hm87 _ hEr); obtain ⟨A87, c87, hve87, _, _, _, _⟩ := hO87.faults; have hv87 : v87.oneCell' = true := (by rw [hve87]; rfl); have hc87 : v87.cells = #[v87] := (by rw [hve87]; rfl); clear hve87) | ((with_reducible refine q_store1 (t := 22) (e := 25) (g := g14) (off := 0) (v := v87) ?_ ?_ hB14 size22 ?_ ?_ ?_ ?_); rfl; rfl; exact hc87; (simp); exact hv87; intro Wt hBt hgt; simp at hBt; replace hO87 := (show OwnF _ Wt _ _ from own_grown hO87 hgt (own_ne hO87 hB14 (.inl (by decide)))); replace hEr := (show Ext WcJ Wt from below_grown hEr hgt hq14 hEr.size))); go_roundw; (case rel => exact ⟨hEr, k + 1, v87, by omega, by go_num, hBt, by rw [Hsn.out]; exact hO87⟩); (case measure => simp [intOf]; omega))
      · obtain rfl : k = c.faults.length := by omega
        have hE := Ext.trans E0.out hEr
        have hF := HF.out.ext hEr; have hM := HM.out.ext hEr; have hI1 := HI1.out.ext hEr
        have hb3_0 := Ext.cell_some hEr k30.out; have hb3_1 := Ext.cell_some hEr k31.out; have hb3_2 := Ext.cell_some hEr k32.out; have hb5_2 := Ext.cell_some hEr k52.out
        have e140 := hB14.cell 0; have e141 := hB14.cell 1; have e142 := hB14.cell 2
        simp at e140 e141 e142
        obtain ⟨AO, cO, rfl, _, _, _, _⟩ := hO.faults
        have hFd : Faults _ (.slice AO (mildTo c a1 c.faults.length).length cO) (mildOf c a0 a1).faults := hO.faults
        have hMd : Strs _ (.slice AM c.man.length cM) (mildOf c a0 a1).man := hM
        have hCd := CodeV.of hFd hMd HWd.out
        rw [show (mildOf c a0 a1).all = al from Hal.out] at hCd
        obtain ⟨k2, hk2⟩ : ∃ k : Nat, a2.tmod (t.length : Int) = (k : Int) := ⟨(a2.tmod (t.length : Int)).toNat, by have := Int.tmod_nonneg (t.length : Int) ha2.1; omega⟩
        have hkk : k2 < t.length := by have := Int.tmod_lt_of_pos a2 (show (0 : Int) < t.length by omega); omega
        have z1 : IntKind.i64.wrap a2 = a2 := IntWalk.i64_in _ (by omega)
        have z2 : IntKind.i64.wrap (k2 : Int) = (k2 : Int) := IntWalk.i64_in _ (by omega)
        have z3 : IntKind.i64.wrap ((k2 : Int) + 1) = (k2 : Int) + 1 := IntWalk.i64_in _ (by omega)
        have z8 : ((t.length : Int) == 0) = false := by rw [beq_eq_false_iff_ne]; omega
        have z9 : ¬ ((t.length : Int) = 0) := by omega
        obtain ⟨AY, cY, hve, _, t2, _, t4⟩ := hI1.ints
        obtain ⟨rfl, rfl⟩ : A1 = AY ∧ c1 = cY := by simpa using hve
        obtain ⟨adt, rfl, hct⟩ := t4 (by omega)
        have et := hct.i hkk
        clear hve t4 hct f4 HES HBS HF HM HI1 E0 hEr hO
        have hcase : (c.faults.length : Int) ≤ t[k2] ∨ (¬ ((c.faults.length : Int) ≤ t[k2]) ∧ t.length = 1) ∨ (¬ ((c.faults.length : Int) ≤ t[k2]) ∧ t.length ≠ 1) := by omega
        have Hcase := Lib.hid hcase
        clear hcase
        rcases hpq with rfl | ⟨rfl, rfl⟩
        · skip
          go_wp2_with (first | ((go_at_call 19; refine (PJudge_any _ _ (mildOf c a0 a1) t _ hCd hI1.ints).mono ?_; rw [Hjd.out]; rintro e Wc ⟨rfl, hEx⟩; (try replace hE := Ext.trans hE hEx); (try replace hF := hF.ext hEx); (try replace hM := hM.ext hEx); (try replace hT := hT.ext hEx); (try replace hI1 := hI1.ext hEx); (try replace hI2 := hI2.ext hEx); (try replace hB3 := hB3.ext hEx); (try replace hB4 := hB4.ext hEx); (try replace hD := hD.ext hEx); (try replace h21 := h21.ext hEx); (try replace hFd := hFd.ext hEx); (try replace hMd := hMd.ext hEx); (try replace hCd := hCd.ext hEx); (try replace hB14 := hB14.ext hEx); (try replace hb3_0 := Ext.cell_some hEx hb3_0); (try replace hb3_1 := Ext.cell_some hEx hb3_1); (try replace hb3_2 := Ext.cell_some hEx hb3_2); (try replace hb4_0 := Ext.cell_some hEx hb4_0); (try replace hb4_1 := Ext.cell_some hEx hb4_1); (try replace hb4_2 := Ext.cell_some hEx hb4_2); (try replace hb5_0 := Ext.cell_some hEx hb5_0); (try replace hb5_1 := Ext.cell_some hEx hb5_1); (try replace hb5_2 := Ext.cell_some hEx hb5_2); (try replace e140 := Ext.cell_some hEx e140); (try replace e141 := Ext.cell_some hEx e141); (try replace e142 := Ext.cell_some hEx e142); (try replace et := Ext.cell_some hEx et); clear hEx)) | (((with_reducible refine q_load (d := some 90) (hl := ld_code3 e140 e141 e142) ?_ ?_); rfl)) | ((with_reducible refine q_box (d := some 3) ?_); intro W3 g3 hE3 hB3 hg3; simp [Act.eval, Act.put, Value.cells] at hB3; (try replace hE := hE.trans hE3); (try replace hF := hF.ext hE3); (try replace hM := hM.ext hE3); (try replace hD := hD.ext hE3); (try replace hI1 := hI1.ext hE3); (try replace hI2 := hI2.ext hE3); (try replace hB3 := hB3.ext hE3); (try replace hB4 := hB4.ext hE3); (try replace hB5 := hB5.ext hE3); (try replace hb3_0 := Ext.cell_some hE3 hb3_0); (try replace hb3_1 := Ext.cell_some hE3 hb3_1); (try replace hb3_2 := Ext.cell_some hE3 hb3_2); (try replace hb4_0 := Ext.cell_some hE3 hb4_0); (try replace hb4_1 := Ext.cell_some hE3 hb4_1); (try replace hb4_2 := Ext.cell_some hE3 hb4_2); (try replace hb5_0 := Ext.cell_some hE3 hb5_0); (try replace hb5_1 := Ext.cell_some hE3 hb5_1); (try replace hb5_2 := Ext.cell_some hE3 hb5_2); have hb3_0 := hB3.cell 0; have hb3_1 := hB3.cell 1; have hb3_2 := hB3.cell 2; simp at hb3_0 hb3_1 hb3_2; clear hE3) | ((with_reducible refine q_box (d := some 4) ?_); intro W4 g4 hE4 hB4 hg4; simp [Act.eval, Act.put, Value.cells] at hB4; (try replace hE := hE.trans hE4); (try replace hF := hF.ext hE4); (try replace hM := hM.ext hE4); (try replace hD := hD.ext hE4); (try replace hI1 := hI1.ext hE4); (try replace hI2 := hI2.ext hE4); (try replace hB3 := hB3.ext hE4); (try replace hB4 := hB4.ext hE4); (try replace hB5 := hB5.ext hE4); (try replace hb3_0 := Ext.cell_some hE4 hb3_0); (try replace hb3_1 := Ext.cell_some hE4 hb3_1); (try replace hb3_2 := Ext.cell_some hE4 hb3_2); (try replace hb4_0 := Ext.cell_some hE4 hb4_0); (try replace hb4_1 := Ext.cell_some hE4 hb4_1); (try replace hb4_2 := Ext.cell_some hE4 hb4_2); (try replace hb5_0 := Ext.cell_some hE4 hb5_0); (try replace hb5_1 := Ext.cell_some hE4 hb5_1); (try replace hb5_2 := Ext.cell_some hE4 hb5_2); have hb4_0 := hB4.cell 0; have hb4_1 := hB4.cell 1; have hb4_2 := hB4.cell 2; simp at hb4_0 hb4_1 hb4_2; clear hE4) | ((with_reducible refine q_box (d := some 5) ?_); intro W5 g5 hE5 hB5 hg5; simp [Act.eval, Act.put, Value.cells] at hB5; (try replace hE := hE.trans hE5); (try replace hF := hF.ext hE5); (try replace hM := hM.ext hE5); (try replace hD := hD.ext hE5); (try replace hI1 := hI1.ext hE5); (try replace hI2 := hI2.ext hE5); (try replace hB3 := hB3.ext hE5); (try replace hB4 := hB4.ext hE5); (try replace hB5 := hB5.ext hE5); (try replace hb3_0 := Ext.cell_some hE5 hb3_0); (try replace hb3_1 := Ext.cell_some hE5 hb3_1); (try replace hb3_2 := Ext.cell_some hE5 hb3_2); (try replace hb4_0 := Ext.cell_some hE5 hb4_0); (try replace hb4_1 := Ext.cell_some hE5 hb4_1); (try replace hb4_2 := Ext.cell_some hE5 hb4_2); (try replace hb5_0 := Ext.cell_some hE5 hb5_0); (try replace hb5_1 := Ext.cell_some hE5 hb5_1); (try replace hb5_2 := Ext.cell_some hE5 hb5_2); have hb5_0 := hB5.cell 0; have hb5_1 := hB5.cell 1; have hb5_2 := hB5.cell 2; simp at hb5_0 hb5_1 hb5_2; clear hE5))
          rcases Hcase.out with hcase | ⟨hcase, hone⟩ | ⟨hcase, hone⟩
          · skip
            refine wp_region_quiet_lit (by kernel_rfl) (by kernel_rfl) ?_
            repeat (any_goals (first | go_big_quiet_step (fail) | quiet_step (fail)))
            refine wpQuiet_nil ?_
            intro _ hw'
            obtain ⟨nq, hw''⟩ := hw'
            subst hw''
            have hqE : Ext Wc (Wc.drewN nq) := (Ext.refl Wc).drewN nq
            (try replace hE := Ext.trans hE hqE)
            (try replace hF := hF.ext hqE)
            (try replace hM := hM.ext hqE)
            (try replace hT := hT.ext hqE)
            
            
            
            
            
            
            
            
            
            
            (try replace hI1 := hI1.ext hqE)
            (try replace hI2 := hI2.ext hqE)
            
            (try replace hB3 := hB3.ext hqE)
            (try replace hB4 := hB4.ext hqE)
            (try replace hD := hD.ext hqE)
            (try replace h21 := h21.ext hqE)
            (try replace hFd := hFd.ext hqE)
            (try replace hMd := hMd.ext hqE)
            (try replace hCd := hCd.ext hqE)
            (try replace hB14 := hB14.ext hqE)
            
            
            
            (try replace hb3_0 := Ext.cell_some hqE hb3_0)
            (try replace hb3_1 := Ext.cell_some hqE hb3_1)
            (try replace hb3_2 := Ext.cell_some hqE hb3_2)
            (try replace hb4_0 := Ext.cell_some hqE hb4_0)
            (try replace hb4_1 := Ext.cell_some hqE hb4_1)
            (try replace hb4_2 := Ext.cell_some hqE hb4_2)
            (try replace hb5_0 := Ext.cell_some hqE hb5_0)
            (try replace hb5_1 := Ext.cell_some hqE hb5_1)
            (try replace hb5_2 := Ext.cell_some hqE hb5_2)
            (try replace e140 := Ext.cell_some hqE e140)
            (try replace e141 := Ext.cell_some hqE e141)
            (try replace e142 := Ext.cell_some hqE e142)
            (try replace et := Ext.cell_some hqE et)
            clear hqE
            go_wp2_with (first | ((go_at_call 24; refine (Awake_any _ (hv.ext hE)).mono ?_; rintro e Wc ⟨rfl, hEx⟩; (try replace hE := Ext.trans hE hEx); (try replace hF := hF.ext hEx); (try replace hM := hM.ext hEx); (try replace hT := hT.ext hEx); (try replace hI1 := hI1.ext hEx); (try replace hI2 := hI2.ext hEx); (try replace hB3 := hB3.ext hEx); (try replace hB4 := hB4.ext hEx); (try replace hD := hD.ext hEx); (try replace h21 := h21.ext hEx); (try replace hFd := hFd.ext hEx); (try replace hMd := hMd.ext hEx); (try replace hCd := hCd.ext hEx); (try replace hB14 := hB14.ext hEx); (try replace hb3_0 := Ext.cell_some hEx hb3_0); (try replace hb3_1 := Ext.cell_some hEx hb3_1); (try replace hb3_2 := Ext.cell_some hEx hb3_2); (try replace hb4_0 := Ext.cell_some hEx hb4_0); (try replace hb4_1 := Ext.cell_some hEx hb4_1); (try replace hb4_2 := Ext.cell_some hEx hb4_2); (try replace hb5_0 := Ext.cell_some hEx hb5_0); (try replace hb5_1 := Ext.cell_some hEx hb5_1); (try replace hb5_2 := Ext.cell_some hEx hb5_2); (try replace e140 := Ext.cell_some hEx e140); (try replace e141 := Ext.cell_some hEx e141); (try replace e142 := Ext.cell_some hEx e142); (try replace et := Ext.cell_some hEx et); clear hEx)) | ((with_reducible refine q_box (d := some 3) ?_); intro W3 g3 hE3 hB3 hg3; simp [Act.eval, Act.put, Value.cells] at hB3; (try replace hE := hE.trans hE3); (try replace hF := hF.ext hE3); (try replace hM := hM.ext hE3); (try replace hD := hD.ext hE3); (try replace hI1 := hI1.ext hE3); (try replace hI2 := hI2.ext hE3); (try replace hB3 := hB3.ext hE3); (try replace hB4 := hB4.ext hE3); (try replace hB5 := hB5.ext hE3); (try replace hb3_0 := Ext.cell_some hE3 hb3_0); (try replace hb3_1 := Ext.cell_some hE3 hb3_1); (try replace hb3_2 := Ext.cell_some hE3 hb3_2); (try replace hb4_0 := Ext.cell_some hE3 hb4_0); (try replace hb4_1 := Ext.cell_some hE3 hb4_1); (try replace hb4_2 := Ext.cell_some hE3 hb4_2); (try replace hb5_0 := Ext.cell_some hE3 hb5_0); (try replace hb5_1 := Ext.cell_some hE3 hb5_1); (try replace hb5_2 := Ext.cell_some hE3 hb5_2); have hb3_0 := hB3.cell 0; have hb3_1 := hB3.cell 1; have hb3_2 := hB3.cell 2; simp at hb3_0 hb3_1 hb3_2; clear hE3) | ((with_reducible refine q_box (d := some 4) ?_); intro W4 g4 hE4 hB4 hg4; simp [Act.eval, Act.put, Value.cells] at hB4; (try replace hE := hE.trans hE4); (try replace hF := hF.ext hE4); (try replace hM := hM.ext hE4); (try replace hD := hD.ext hE4); (try replace hI1 := hI1.ext hE4); (try replace hI2 := hI2.ext hE4); (try replace hB3 := hB3.ext hE4); (try replace hB4 := hB4.ext hE4); (try replace hB5 := hB5.ext hE4); (try replace hb3_0 := Ext.cell_some hE4 hb3_0); (try replace hb3_1 := Ext.cell_some hE4 hb3_1); (try replace hb3_2 := Ext.cell_some hE4 hb3_2); (try replace hb4_0 := Ext.cell_some hE4 hb4_0); (try replace hb4_1 := Ext.cell_some hE4 hb4_1); (try replace hb4_2 := Ext.cell_some hE4 hb4_2); (try replace hb5_0 := Ext.cell_some hE4 hb5_0); (try replace hb5_1 := Ext.cell_some hE4 hb5_1); (try replace hb5_2 := Ext.cell_some hE4 hb5_2); have hb4_0 := hB4.cell 0; have hb4_1 := hB4.cell 1; have hb4_2 := hB4.cell 2; simp at hb4_0 hb4_1 hb4_2; clear hE4) | ((with_reducible refine q_box (d := some 5) ?_); intro W5 g5 hE5 hB5 hg5; simp [Act.eval, Act.put, Value.cells] at hB5; (try replace hE := hE.trans hE5); (try replace hF := hF.ext hE5); (try replace hM := hM.ext hE5); (try replace hD := hD.ext hE5); (try replace hI1 := hI1.ext hE5); (try replace hI2 := hI2.ext hE5); (try replace hB3 := hB3.ext hE5); (try replace hB4 := hB4.ext hE5); (try replace hB5 := hB5.ext hE5); (try replace hb3_0 := Ext.cell_some hE5 hb3_0); (try replace hb3_1 := Ext.cell_some hE5 hb3_1); (try replace hb3_2 := Ext.cell_some hE5 hb3_2); (try replace hb4_0 := Ext.cell_some hE5 hb4_0); (try replace hb4_1 := Ext.cell_some hE5 hb4_1); (try replace hb4_2 := Ext.cell_some hE5 hb4_2); (try replace hb5_0 := Ext.cell_some hE5 hb5_0); (try replace hb5_1 := Ext.cell_some hE5 hb5_1); (try replace hb5_2 := Ext.cell_some hE5 hb5_2); have hb5_0 := hB5.cell 0; have hb5_1 := hB5.cell 1; have hb5_2 := hB5.cell 2; simp at hb5_0 hb5_1 hb5_2; clear hE5))
            all_goals (go_ret; exact ⟨rfl, hE⟩)
          · skip
            have hone2 : (t.length : Int) = 1 := by omega
            have honeH := Lib.hid hone2
            clear hone
            refine wp_region_quiet_lit (by kernel_rfl) (by kernel_rfl) ?_
            repeat (any_goals (first | go_big_quiet_step (fail) | quiet_step (fail)))
            refine wpQuiet_nil ?_
            intro _ hw'
            obtain ⟨nq, hw''⟩ := hw'
            subst hw''
            have hqE : Ext Wc (Wc.drewN nq) := (Ext.refl Wc).drewN nq
            (try replace hE := Ext.trans hE hqE)
            (try replace hF := hF.ext hqE)
            (try replace hM := hM.ext hqE)
            (try replace hT := hT.ext hqE)
            
            
            
            
            
            
            
            
            
            
            (try replace hI1 := hI1.ext hqE)
            (try replace hI2 := hI2.ext hqE)
            
            (try replace hB3 := hB3.ext hqE)
            (try replace hB4 := hB4.ext hqE)
            (try replace hD := hD.ext hqE)
            (try replace h21 := h21.ext hqE)
            (try replace hFd := hFd.ext hqE)
            (try replace hMd := hMd.ext hqE)
            (try replace hCd := hCd.ext hqE)
            (try replace hB14 := hB14.ext hqE)
            
            
            
            (try replace hb3_0 := Ext.cell_some hqE hb3_0)
            (try replace hb3_1 := Ext.cell_some hqE hb3_1)
            (try replace hb3_2 := Ext.cell_some hqE hb3_2)
            (try replace hb4_0 := Ext.cell_some hqE hb4_0)
            (try replace hb4_1 := Ext.cell_some hqE hb4_1)
            (try replace hb4_2 := Ext.cell_some hqE hb4_2)
            (try replace hb5_0 := Ext.cell_some hqE hb5_0)
            (try replace hb5_1 := Ext.cell_some hqE hb5_1)
            (try replace hb5_2 := Ext.cell_some hqE hb5_2)
            (try replace e140 := Ext.cell_some hqE e140)
            (try replace e141 := Ext.cell_some hqE e141)
            (try replace e142 := Ext.cell_some hqE e142)
            (try replace et := Ext.cell_some hqE et)
            clear hqE
            go_wp2_with (first | ((go_at_call 24; refine (Awake_any _ (hv.ext hE)).mono ?_; rintro e Wc ⟨rfl, hEx⟩; (try replace hE := Ext.trans hE hEx); (try replace hF := hF.ext hEx); (try replace hM := hM.ext hEx); (try replace hT := hT.ext hEx); (try replace hI1 := hI1.ext hEx); (try replace hI2 := hI2.ext hEx); (try replace hB3 := hB3.ext hEx); (try replace hB4 := hB4.ext hEx); (try replace hD := hD.ext hEx); (try replace h21 := h21.ext hEx); (try replace hFd := hFd.ext hEx); (try replace hMd := hMd.ext hEx); (try replace hCd := hCd.ext hEx); (try replace hB14 := hB14.ext hEx); (try replace hb3_0 := Ext.cell_some hEx hb3_0); (try replace hb3_1 := Ext.cell_some hEx hb3_1); (try replace hb3_2 := Ext.cell_some hEx hb3_2); (try replace hb4_0 := Ext.cell_some hEx hb4_0); (try replace hb4_1 := Ext.cell_some hEx hb4_1); (try replace hb4_2 := Ext.cell_some hEx hb4_2); (try replace hb5_0 := Ext.cell_some hEx hb5_0); (try replace hb5_1 := Ext.cell_some hEx hb5_1); (try replace hb5_2 := Ext.cell_some hEx hb5_2); (try replace e140 := Ext.cell_some hEx e140); (try replace e141 := Ext.cell_some hEx e141); (try replace e142 := Ext.cell_some hEx e142); (try replace et := Ext.cell_some hEx et); clear hEx)) | ((with_reducible refine q_box (d := some 3) ?_); intro W3 g3 hE3 hB3 hg3; simp [Act.eval, Act.put, Value.cells] at hB3; (try replace hE := hE.trans hE3); (try replace hF := hF.ext hE3); (try replace hM := hM.ext hE3); (try replace hD := hD.ext hE3); (try replace hI1 := hI1.ext hE3); (try replace hI2 := hI2.ext hE3); (try replace hB3 := hB3.ext hE3); (try replace hB4 := hB4.ext hE3); (try replace hB5 := hB5.ext hE3); (try replace hb3_0 := Ext.cell_some hE3 hb3_0); (try replace hb3_1 := Ext.cell_some hE3 hb3_1); (try replace hb3_2 := Ext.cell_some hE3 hb3_2); (try replace hb4_0 := Ext.cell_some hE3 hb4_0); (try replace hb4_1 := Ext.cell_some hE3 hb4_1); (try replace hb4_2 := Ext.cell_some hE3 hb4_2); (try replace hb5_0 := Ext.cell_some hE3 hb5_0); (try replace hb5_1 := Ext.cell_some hE3 hb5_1); (try replace hb5_2 := Ext.cell_some hE3 hb5_2); have hb3_0 := hB3.cell 0; have hb3_1 := hB3.cell 1; have hb3_2 := hB3.cell 2; simp at hb3_0 hb3_1 hb3_2; clear hE3) | ((with_reducible refine q_box (d := some 4) ?_); intro W4 g4 hE4 hB4 hg4; simp [Act.eval, Act.put, Value.cells] at hB4; (try replace hE := hE.trans hE4); (try replace hF := hF.ext hE4); (try replace hM := hM.ext hE4); (try replace hD := hD.ext hE4); (try replace hI1 := hI1.ext hE4); (try replace hI2 := hI2.ext hE4); (try replace hB3 := hB3.ext hE4); (try replace hB4 := hB4.ext hE4); (try replace hB5 := hB5.ext hE4); (try replace hb3_0 := Ext.cell_some hE4 hb3_0); (try replace hb3_1 := Ext.cell_some hE4 hb3_1); (try replace hb3_2 := Ext.cell_some hE4 hb3_2); (try replace hb4_0 := Ext.cell_some hE4 hb4_0); (try replace hb4_1 := Ext.cell_some hE4 hb4_1); (try replace hb4_2 := Ext.cell_some hE4 hb4_2); (try replace hb5_0 := Ext.cell_some hE4 hb5_0); (try replace hb5_1 := Ext.cell_some hE4 hb5_1); (try replace hb5_2 := Ext.cell_some hE4 hb5_2); have hb4_0 := hB4.cell 0; have hb4_1 := hB4.cell 1; have hb4_2 := hB4.cell 2; simp at hb4_0 hb4_1 hb4_2; clear hE4) | ((with_reducible refine q_box (d := some 5) ?_); intro W5 g5 hE5 hB5 hg5; simp [Act.eval, Act.put, Value.cells] at hB5; (try replace hE := hE.trans hE5); (try replace hF := hF.ext hE5); (try replace hM := hM.ext hE5); (try replace hD := hD.ext hE5); (try replace hI1 := hI1.ext hE5); (try replace hI2 := hI2.ext hE5); (try replace hB3 := hB3.ext hE5); (try replace hB4 := hB4.ext hE5); (try replace hB5 := hB5.ext hE5); (try replace hb3_0 := Ext.cell_some hE5 hb3_0); (try replace hb3_1 := Ext.cell_some hE5 hb3_1); (try replace hb3_2 := Ext.cell_some hE5 hb3_2); (try replace hb4_0 := Ext.cell_some hE5 hb4_0); (try replace hb4_1 := Ext.cell_some hE5 hb4_1); (try replace hb4_2 := Ext.cell_some hE5 hb4_2); (try replace hb5_0 := Ext.cell_some hE5 hb5_0); (try replace hb5_1 := Ext.cell_some hE5 hb5_1); (try replace hb5_2 := Ext.cell_some hE5 hb5_2); have hb5_0 := hB5.cell 0; have hb5_1 := hB5.cell 1; have hb5_2 := hB5.cell 2; simp at hb5_0 hb5_1 hb5_2; clear hE5))
            all_goals (go_ret; exact ⟨rfl, hE⟩)
          · skip
            have hone2 : ¬ ((t.length : Int) = 1) := by omega
            refine wp_region_quiet_lit (by kernel_rfl) (by kernel_rfl) ?_
            repeat (any_goals (first | go_big_quiet_step (fail) | quiet_step (fail)))
            refine wpQuiet_nil ?_
            intro _ hw'
            obtain ⟨nq, hw''⟩ := hw'
            subst hw''
            have hqE : Ext Wc (Wc.drewN nq) := (Ext.refl Wc).drewN nq
            obtain ⟨n', p', hjl, hpp⟩ := H5.out k2 hkk (by omega) hone
            obtain ⟨lf, hlf⟩ : ∃ l, (without c t [(k2 : Int) + 1]).1 = l := ⟨_, rfl⟩
            rw [hlf] at hjl
            have Hlf := Lib.hid hlf; have Hjl := Lib.hid hjl
            clear hlf hjl
            (try replace hE := Ext.trans hE hqE)
            (try replace hF := hF.ext hqE)
            (try replace hM := hM.ext hqE)
            (try replace hT := hT.ext hqE)
            
            
            
            
            
            
            
            
            
            
            (try replace hI1 := hI1.ext hqE)
            (try replace hI2 := hI2.ext hqE)
            
            (try replace hB3 := hB3.ext hqE)
            (try replace hB4 := hB4.ext hqE)
            (try replace hD := hD.ext hqE)
            (try replace h21 := h21.ext hqE)
            (try replace hFd := hFd.ext hqE)
            (try replace hMd := hMd.ext hqE)
            (try replace hCd := hCd.ext hqE)
            (try replace hB14 := hB14.ext hqE)
            
            
            
            (try replace hb3_0 := Ext.cell_some hqE hb3_0)
            (try replace hb3_1 := Ext.cell_some hqE hb3_1)
            (try replace hb3_2 := Ext.cell_some hqE hb3_2)
            (try replace hb4_0 := Ext.cell_some hqE hb4_0)
            (try replace hb4_1 := Ext.cell_some hqE hb4_1)
            (try replace hb4_2 := Ext.cell_some hqE hb4_2)
            (try replace hb5_0 := Ext.cell_some hqE hb5_0)
            (try replace hb5_1 := Ext.cell_some hqE hb5_1)
            (try replace hb5_2 := Ext.cell_some hqE hb5_2)
            (try replace e140 := Ext.cell_some hqE e140)
            (try replace e141 := Ext.cell_some hqE e141)
            (try replace e142 := Ext.cell_some hqE e142)
            (try replace et := Ext.cell_some hqE et)
            clear hqE
            go_wp2_with (first | (((with_reducible refine q_bsI (d := some 134) (n := (k2 : Int) + 1) ?_ ?_); (first | rfl | go_num); intro W134 g134 hE134 hB134 hg134; (try replace hE := Ext.trans hE hE134); (try replace hF := hF.ext hE134); (try replace hM := hM.ext hE134); (try replace hT := hT.ext hE134); (try replace hI1 := hI1.ext hE134); (try replace hI2 := hI2.ext hE134); (try replace hB3 := hB3.ext hE134); (try replace hB4 := hB4.ext hE134); (try replace hD := hD.ext hE134); (try replace h21 := h21.ext hE134); (try replace hFd := hFd.ext hE134); (try replace hMd := hMd.ext hE134); (try replace hCd := hCd.ext hE134); (try replace hB14 := hB14.ext hE134); (try replace hb3_0 := Ext.cell_some hE134 hb3_0); (try replace hb3_1 := Ext.cell_some hE134 hb3_1); (try replace hb3_2 := Ext.cell_some hE134 hb3_2); (try replace hb4_0 := Ext.cell_some hE134 hb4_0); (try replace hb4_1 := Ext.cell_some hE134 hb4_1); (try replace hb4_2 := Ext.cell_some hE134 hb4_2); (try replace hb5_0 := Ext.cell_some hE134 hb5_0); (try replace hb5_1 := Ext.cell_some hE134 hb5_1); (try replace hb5_2 := Ext.cell_some hE134 hb5_2); (try replace e140 := Ext.cell_some hE134 e140); (try replace e141 := Ext.cell_some hE134 e141); (try replace e142 := Ext.cell_some hE134 e142); (try replace et := Ext.cell_some hE134 et); clear hE134 hg134)) | ((go_at_call 50; refine (Without_any _ _ _ c t [(k2 : Int) + 1] _ (CodeV.of hF hM HW.out) hI1.ints (OwnI.of_blk (B := 0) hB134 (Nat.zero_le _)).ints (by have := Htl.out; omega)).mono ?_; rw [show (without c t [(k2 : Int) + 1]).1 = lf from Hlf.out]; rintro e Wc ⟨v21, rfl, h21, hEx⟩; (try replace hE := Ext.trans hE hEx); (try replace hF := hF.ext hEx); (try replace hM := hM.ext hEx); (try replace hT := hT.ext hEx); (try replace hI1 := hI1.ext hEx); (try replace hI2 := hI2.ext hEx); (try replace hB3 := hB3.ext hEx); (try replace hB4 := hB4.ext hEx); (try replace hD := hD.ext hEx); (try replace hFd := hFd.ext hEx); (try replace hMd := hMd.ext hEx); (try replace hCd := hCd.ext hEx); (try replace hB14 := hB14.ext hEx); (try replace hb3_0 := Ext.cell_some hEx hb3_0); (try replace hb3_1 := Ext.cell_some hEx hb3_1); (try replace hb3_2 := Ext.cell_some hEx hb3_2); (try replace hb4_0 := Ext.cell_some hEx hb4_0); (try replace hb4_1 := Ext.cell_some hEx hb4_1); (try replace hb4_2 := Ext.cell_some hEx hb4_2); (try replace hb5_0 := Ext.cell_some hEx hb5_0); (try replace hb5_1 := Ext.cell_some hEx hb5_1); (try replace hb5_2 := Ext.cell_some hEx hb5_2); (try replace e140 := Ext.cell_some hEx e140); (try replace e141 := Ext.cell_some hEx e141); (try replace e142 := Ext.cell_some hEx e142); (try replace et := Ext.cell_some hEx et); clear hEx; obtain ⟨A21, c21, hve21, _, _, _, _⟩ := h21.ints; subst hve21)) | ((go_at_call 19; refine (PJudge_any _ _ c lf _ (CodeV.of hF hM HW.out) h21.ints).mono ?_; rw [Hjl.out]; rintro e Wc ⟨rfl, hEx⟩; (try replace hE := Ext.trans hE hEx); (try replace hF := hF.ext hEx); (try replace hM := hM.ext hEx); (try replace hT := hT.ext hEx); (try replace hI1 := hI1.ext hEx); (try replace hI2 := hI2.ext hEx); (try replace hB3 := hB3.ext hEx); (try replace hB4 := hB4.ext hEx); (try replace hD := hD.ext hEx); (try replace h21 := h21.ext hEx); (try replace hFd := hFd.ext hEx); (try replace hMd := hMd.ext hEx); (try replace hCd := hCd.ext hEx); (try replace hB14 := hB14.ext hEx); (try replace hb3_0 := Ext.cell_some hEx hb3_0); (try replace hb3_1 := Ext.cell_some hEx hb3_1); (try replace hb3_2 := Ext.cell_some hEx hb3_2); (try replace hb4_0 := Ext.cell_some hEx hb4_0); (try replace hb4_1 := Ext.cell_some hEx hb4_1); (try replace hb4_2 := Ext.cell_some hEx hb4_2); (try replace hb5_0 := Ext.cell_some hEx hb5_0); (try replace hb5_1 := Ext.cell_some hEx hb5_1); (try replace hb5_2 := Ext.cell_some hEx hb5_2); (try replace e140 := Ext.cell_some hEx e140); (try replace e141 := Ext.cell_some hEx e141); (try replace e142 := Ext.cell_some hEx e142); (try replace et := Ext.cell_some hEx et); clear hEx)) | ((go_at_call 24; refine (Awake_any _ (hv.ext hE)).mono ?_; rintro e Wc ⟨rfl, hEx⟩; (try replace hE := Ext.trans hE hEx); (try replace hF := hF.ext hEx); (try replace hM := hM.ext hEx); (try replace hT := hT.ext hEx); (try replace hI1 := hI1.ext hEx); (try replace hI2 := hI2.ext hEx); (try replace hB3 := hB3.ext hEx); (try replace hB4 := hB4.ext hEx); (try replace hD := hD.ext hEx); (try replace h21 := h21.ext hEx); (try replace hFd := hFd.ext hEx); (try replace hMd := hMd.ext hEx); (try replace hCd := hCd.ext hEx); (try replace hB14 := hB14.ext hEx); (try replace hb3_0 := Ext.cell_some hEx hb3_0); (try replace hb3_1 := Ext.cell_some hEx hb3_1); (try replace hb3_2 := Ext.cell_some hEx hb3_2); (try replace hb4_0 := Ext.cell_some hEx hb4_0); (try replace hb4_1 := Ext.cell_some hEx hb4_1); (try replace hb4_2 := Ext.cell_some hEx hb4_2); (try replace hb5_0 := Ext.cell_some hEx hb5_0); (try replace hb5_1 := Ext.cell_some hEx hb5_1); (try replace hb5_2 := Ext.cell_some hEx hb5_2); (try replace e140 := Ext.cell_some hEx e140); (try replace e141 := Ext.cell_some hEx e141); (try replace e142 := Ext.cell_some hEx e142); (try replace et := Ext.cell_some hEx et); clear hEx)) | ((with_reducible refine q_box (d := some 3) ?_); intro W3 g3 hE3 hB3 hg3; simp [Act.eval, Act.put, Value.cells] at hB3; (try replace hE := hE.trans hE3); (try replace hF := hF.ext hE3); (try replace hM := hM.ext hE3); (try replace hD := hD.ext hE3); (try replace hI1 := hI1.ext hE3); (try replace hI2 := hI2.ext hE3); (try replace hB3 := hB3.ext hE3); (try replace hB4 := hB4.ext hE3); (try replace hB5 := hB5.ext hE3); (try replace hb3_0 := Ext.cell_some hE3 hb3_0); (try replace hb3_1 := Ext.cell_some hE3 hb3_1); (try replace hb3_2 := Ext.cell_some hE3 hb3_2); (try replace hb4_0 := Ext.cell_some hE3 hb4_0); (try replace hb4_1 := Ext.cell_some hE3 hb4_1); (try replace hb4_2 := Ext.cell_some hE3 hb4_2); (try replace hb5_0 := Ext.cell_some hE3 hb5_0); (try replace hb5_1 := Ext.cell_some hE3 hb5_1); (try replace hb5_2 := Ext.cell_some hE3 hb5_2); have hb3_0 := hB3.cell 0; have hb3_1 := hB3.cell 1; have hb3_2 := hB3.cell 2; simp at hb3_0 hb3_1 hb3_2; clear hE3) | ((with_reducible refine q_box (d := some 4) ?_); intro W4 g4 hE4 hB4 hg4; simp [Act.eval, Act.put, Value.cells] at hB4; (try replace hE := hE.trans hE4); (try replace hF := hF.ext hE4); (try replace hM := hM.ext hE4); (try replace hD := hD.ext hE4); (try replace hI1 := hI1.ext hE4); (try replace hI2 := hI2.ext hE4); (try replace hB3 := hB3.ext hE4); (try replace hB4 := hB4.ext hE4); (try replace hB5 := hB5.ext hE4); (try replace hb3_0 := Ext.cell_some hE4 hb3_0); (try replace hb3_1 := Ext.cell_some hE4 hb3_1); (try replace hb3_2 := Ext.cell_some hE4 hb3_2); (try replace hb4_0 := Ext.cell_some hE4 hb4_0); (try replace hb4_1 := Ext.cell_some hE4 hb4_1); (try replace hb4_2 := Ext.cell_some hE4 hb4_2); (try replace hb5_0 := Ext.cell_some hE4 hb5_0); (try replace hb5_1 := Ext.cell_some hE4 hb5_1); (try replace hb5_2 := Ext.cell_some hE4 hb5_2); have hb4_0 := hB4.cell 0; have hb4_1 := hB4.cell 1; have hb4_2 := hB4.cell 2; simp at hb4_0 hb4_1 hb4_2; clear hE4) | ((with_reducible refine q_box (d := some 5) ?_); intro W5 g5 hE5 hB5 hg5; simp [Act.eval, Act.put, Value.cells] at hB5; (try replace hE := hE.trans hE5); (try replace hF := hF.ext hE5); (try replace hM := hM.ext hE5); (try replace hD := hD.ext hE5); (try replace hI1 := hI1.ext hE5); (try replace hI2 := hI2.ext hE5); (try replace hB3 := hB3.ext hE5); (try replace hB4 := hB4.ext hE5); (try replace hB5 := hB5.ext hE5); (try replace hb3_0 := Ext.cell_some hE5 hb3_0); (try replace hb3_1 := Ext.cell_some hE5 hb3_1); (try replace hb3_2 := Ext.cell_some hE5 hb3_2); (try replace hb4_0 := Ext.cell_some hE5 hb4_0); (try replace hb4_1 := Ext.cell_some hE5 hb4_1); (try replace hb4_2 := Ext.cell_some hE5 hb4_2); (try replace hb5_0 := Ext.cell_some hE5 hb5_0); (try replace hb5_1 := Ext.cell_some hE5 hb5_1); (try replace hb5_2 := Ext.cell_some hE5 hb5_2); have hb5_0 := hB5.cell 0; have hb5_1 := hB5.cell 1; have hb5_2 := hB5.cell 2; simp at hb5_0 hb5_1 hb5_2; clear hE5))
            all_goals (go_ret; exact ⟨rfl, hE⟩)
        · skip
          go_wp2_with (first | ((go_at_call 19; refine (PJudge_any _ _ (mildOf c a0 a1) t _ hCd hI1.ints).mono ?_; rw [Hjd.out]; rintro e Wc ⟨rfl, hEx⟩; (try replace hE := Ext.trans hE hEx); (try replace hF := hF.ext hEx); (try replace hM := hM.ext hEx); (try replace hT := hT.ext hEx); (try replace hI1 := hI1.ext hEx); (try replace hI2 := hI2.ext hEx); (try replace hB3 := hB3.ext hEx); (try replace hB4 := hB4.ext hEx); (try replace hD := hD.ext hEx); (try replace h21 := h21.ext hEx); (try replace hFd := hFd.ext hEx); (try replace hMd := hMd.ext hEx); (try replace hCd := hCd.ext hEx); (try replace hB14 := hB14.ext hEx); (try replace hb3_0 := Ext.cell_some hEx hb3_0); (try replace hb3_1 := Ext.cell_some hEx hb3_1); (try replace hb3_2 := Ext.cell_some hEx hb3_2); (try replace hb4_0 := Ext.cell_some hEx hb4_0); (try replace hb4_1 := Ext.cell_some hEx hb4_1); (try replace hb4_2 := Ext.cell_some hEx hb4_2); (try replace hb5_0 := Ext.cell_some hEx hb5_0); (try replace hb5_1 := Ext.cell_some hEx hb5_1); (try replace hb5_2 := Ext.cell_some hEx hb5_2); (try replace e140 := Ext.cell_some hEx e140); (try replace e141 := Ext.cell_some hEx e141); (try replace e142 := Ext.cell_some hEx e142); (try replace et := Ext.cell_some hEx et); clear hEx)) | (((with_reducible refine q_load (d := some 90) (hl := ld_code3 e140 e141 e142) ?_ ?_); rfl)) | ((with_reducible refine q_box (d := some 3) ?_); intro W3 g3 hE3 hB3 hg3; simp [Act.eval, Act.put, Value.cells] at hB3; (try replace hE := hE.trans hE3); (try replace hF := hF.ext hE3); (try replace hM := hM.ext hE3); (try replace hD := hD.ext hE3); (try replace hI1 := hI1.ext hE3); (try replace hI2 := hI2.ext hE3); (try replace hB3 := hB3.ext hE3); (try replace hB4 := hB4.ext hE3); (try replace hB5 := hB5.ext hE3); (try replace hb3_0 := Ext.cell_some hE3 hb3_0); (try replace hb3_1 := Ext.cell_some hE3 hb3_1); (try replace hb3_2 := Ext.cell_some hE3 hb3_2); (try replace hb4_0 := Ext.cell_some hE3 hb4_0); (try replace hb4_1 := Ext.cell_some hE3 hb4_1); (try replace hb4_2 := Ext.cell_some hE3 hb4_2); (try replace hb5_0 := Ext.cell_some hE3 hb5_0); (try replace hb5_1 := Ext.cell_some hE3 hb5_1); (try replace hb5_2 := Ext.cell_some hE3 hb5_2); have hb3_0 := hB3.cell 0; have hb3_1 := hB3.cell 1; have hb3_2 := hB3.cell 2; simp at hb3_0 hb3_1 hb3_2; clear hE3) | ((with_reducible refine q_box (d := some 4) ?_); intro W4 g4 hE4 hB4 hg4; simp [Act.eval, Act.put, Value.cells] at hB4; (try replace hE := hE.trans hE4); (try replace hF := hF.ext hE4); (try replace hM := hM.ext hE4); (try replace hD := hD.ext hE4); (try replace hI1 := hI1.ext hE4); (try replace hI2 := hI2.ext hE4); (try replace hB3 := hB3.ext hE4); (try replace hB4 := hB4.ext hE4); (try replace hB5 := hB5.ext hE4); (try replace hb3_0 := Ext.cell_some hE4 hb3_0); (try replace hb3_1 := Ext.cell_some hE4 hb3_1); (try replace hb3_2 := Ext.cell_some hE4 hb3_2); (try replace hb4_0 := Ext.cell_some hE4 hb4_0); (try replace hb4_1 := Ext.cell_some hE4 hb4_1); (try replace hb4_2 := Ext.cell_some hE4 hb4_2); (try replace hb5_0 := Ext.cell_some hE4 hb5_0); (try replace hb5_1 := Ext.cell_some hE4 hb5_1); (try replace hb5_2 := Ext.cell_some hE4 hb5_2); have hb4_0 := hB4.cell 0; have hb4_1 := hB4.cell 1; have hb4_2 := hB4.cell 2; simp at hb4_0 hb4_1 hb4_2; clear hE4) | ((with_reducible refine q_box (d := some 5) ?_); intro W5 g5 hE5 hB5 hg5; simp [Act.eval, Act.put, Value.cells] at hB5; (try replace hE := hE.trans hE5); (try replace hF := hF.ext hE5); (try replace hM := hM.ext hE5); (try replace hD := hD.ext hE5); (try replace hI1 := hI1.ext hE5); (try replace hI2 := hI2.ext hE5); (try replace hB3 := hB3.ext hE5); (try replace hB4 := hB4.ext hE5); (try replace hB5 := hB5.ext hE5); (try replace hb3_0 := Ext.cell_some hE5 hb3_0); (try replace hb3_1 := Ext.cell_some hE5 hb3_1); (try replace hb3_2 := Ext.cell_some hE5 hb3_2); (try replace hb4_0 := Ext.cell_some hE5 hb4_0); (try replace hb4_1 := Ext.cell_some hE5 hb4_1); (try replace hb4_2 := Ext.cell_some hE5 hb4_2); (try replace hb5_0 := Ext.cell_some hE5 hb5_0); (try replace hb5_1 := Ext.cell_some hE5 hb5_1); (try replace hb5_2 := Ext.cell_some hE5 hb5_2); have hb5_0 := hB5.cell 0; have hb5_1 := hB5.cell 1; have hb5_2 := hB5.cell 2; simp at hb5_0 hb5_1 hb5_2; clear hE5))
          rcases Hcase.out with hcase | ⟨hcase, hone⟩ | ⟨hcase, hone⟩
          · skip
            refine wp_region_quiet_lit (by kernel_rfl) (by kernel_rfl) ?_
            repeat (any_goals (first | go_big_quiet_step (fail) | quiet_step (fail)))
            refine wpQuiet_nil ?_
            intro _ hw'
            obtain ⟨nq, hw''⟩ := hw'
            subst hw''
            have hqE : Ext Wc (Wc.drewN nq) := (Ext.refl Wc).drewN nq
            (try replace hE := Ext.trans hE hqE)
            (try replace hF := hF.ext hqE)
            (try replace hM := hM.ext hqE)
            (try replace hT := hT.ext hqE)
            
            
            
            
            
            
            
            
            
            
            (try replace hI1 := hI1.ext hqE)
            (try replace hI2 := hI2.ext hqE)
            
            (try replace hB3 := hB3.ext hqE)
            (try replace hB4 := hB4.ext hqE)
            (try replace hD := hD.ext hqE)
            (try replace h21 := h21.ext hqE)
            (try replace hFd := hFd.ext hqE)
            (try replace hMd := hMd.ext hqE)
            (try replace hCd := hCd.ext hqE)
            (try replace hB14 := hB14.ext hqE)
            
            
            
            (try replace hb3_0 := Ext.cell_some hqE hb3_0)
            (try replace hb3_1 := Ext.cell_some hqE hb3_1)
            (try replace hb3_2 := Ext.cell_some hqE hb3_2)
            (try replace hb4_0 := Ext.cell_some hqE hb4_0)
            (try replace hb4_1 := Ext.cell_some hqE hb4_1)
            (try replace hb4_2 := Ext.cell_some hqE hb4_2)
            (try replace hb5_0 := Ext.cell_some hqE hb5_0)
            (try replace hb5_1 := Ext.cell_some hqE hb5_1)
            (try replace hb5_2 := Ext.cell_some hqE hb5_2)
            (try replace e140 := Ext.cell_some hqE e140)
            (try replace e141 := Ext.cell_some hqE e141)
            (try replace e142 := Ext.cell_some hqE e142)
            (try replace et := Ext.cell_some hqE et)
            clear hqE
            go_wp2_with (first | ((go_at_call 24; refine (Awake_any _ (hv.ext hE)).mono ?_; rintro e Wc ⟨rfl, hEx⟩; (try replace hE := Ext.trans hE hEx); (try replace hF := hF.ext hEx); (try replace hM := hM.ext hEx); (try replace hT := hT.ext hEx); (try replace hI1 := hI1.ext hEx); (try replace hI2 := hI2.ext hEx); (try replace hB3 := hB3.ext hEx); (try replace hB4 := hB4.ext hEx); (try replace hD := hD.ext hEx); (try replace h21 := h21.ext hEx); (try replace hFd := hFd.ext hEx); (try replace hMd := hMd.ext hEx); (try replace hCd := hCd.ext hEx); (try replace hB14 := hB14.ext hEx); (try replace hb3_0 := Ext.cell_some hEx hb3_0); (try replace hb3_1 := Ext.cell_some hEx hb3_1); (try replace hb3_2 := Ext.cell_some hEx hb3_2); (try replace hb4_0 := Ext.cell_some hEx hb4_0); (try replace hb4_1 := Ext.cell_some hEx hb4_1); (try replace hb4_2 := Ext.cell_some hEx hb4_2); (try replace hb5_0 := Ext.cell_some hEx hb5_0); (try replace hb5_1 := Ext.cell_some hEx hb5_1); (try replace hb5_2 := Ext.cell_some hEx hb5_2); (try replace e140 := Ext.cell_some hEx e140); (try replace e141 := Ext.cell_some hEx e141); (try replace e142 := Ext.cell_some hEx e142); (try replace et := Ext.cell_some hEx et); clear hEx)) | ((with_reducible refine q_box (d := some 3) ?_); intro W3 g3 hE3 hB3 hg3; simp [Act.eval, Act.put, Value.cells] at hB3; (try replace hE := hE.trans hE3); (try replace hF := hF.ext hE3); (try replace hM := hM.ext hE3); (try replace hD := hD.ext hE3); (try replace hI1 := hI1.ext hE3); (try replace hI2 := hI2.ext hE3); (try replace hB3 := hB3.ext hE3); (try replace hB4 := hB4.ext hE3); (try replace hB5 := hB5.ext hE3); (try replace hb3_0 := Ext.cell_some hE3 hb3_0); (try replace hb3_1 := Ext.cell_some hE3 hb3_1); (try replace hb3_2 := Ext.cell_some hE3 hb3_2); (try replace hb4_0 := Ext.cell_some hE3 hb4_0); (try replace hb4_1 := Ext.cell_some hE3 hb4_1); (try replace hb4_2 := Ext.cell_some hE3 hb4_2); (try replace hb5_0 := Ext.cell_some hE3 hb5_0); (try replace hb5_1 := Ext.cell_some hE3 hb5_1); (try replace hb5_2 := Ext.cell_some hE3 hb5_2); have hb3_0 := hB3.cell 0; have hb3_1 := hB3.cell 1; have hb3_2 := hB3.cell 2; simp at hb3_0 hb3_1 hb3_2; clear hE3) | ((with_reducible refine q_box (d := some 4) ?_); intro W4 g4 hE4 hB4 hg4; simp [Act.eval, Act.put, Value.cells] at hB4; (try replace hE := hE.trans hE4); (try replace hF := hF.ext hE4); (try replace hM := hM.ext hE4); (try replace hD := hD.ext hE4); (try replace hI1 := hI1.ext hE4); (try replace hI2 := hI2.ext hE4); (try replace hB3 := hB3.ext hE4); (try replace hB4 := hB4.ext hE4); (try replace hB5 := hB5.ext hE4); (try replace hb3_0 := Ext.cell_some hE4 hb3_0); (try replace hb3_1 := Ext.cell_some hE4 hb3_1); (try replace hb3_2 := Ext.cell_some hE4 hb3_2); (try replace hb4_0 := Ext.cell_some hE4 hb4_0); (try replace hb4_1 := Ext.cell_some hE4 hb4_1); (try replace hb4_2 := Ext.cell_some hE4 hb4_2); (try replace hb5_0 := Ext.cell_some hE4 hb5_0); (try replace hb5_1 := Ext.cell_some hE4 hb5_1); (try replace hb5_2 := Ext.cell_some hE4 hb5_2); have hb4_0 := hB4.cell 0; have hb4_1 := hB4.cell 1; have hb4_2 := hB4.cell 2; simp at hb4_0 hb4_1 hb4_2; clear hE4) | ((with_reducible refine q_box (d := some 5) ?_); intro W5 g5 hE5 hB5 hg5; simp [Act.eval, Act.put, Value.cells] at hB5; (try replace hE := hE.trans hE5); (try replace hF := hF.ext hE5); (try replace hM := hM.ext hE5); (try replace hD := hD.ext hE5); (try replace hI1 := hI1.ext hE5); (try replace hI2 := hI2.ext hE5); (try replace hB3 := hB3.ext hE5); (try replace hB4 := hB4.ext hE5); (try replace hB5 := hB5.ext hE5); (try replace hb3_0 := Ext.cell_some hE5 hb3_0); (try replace hb3_1 := Ext.cell_some hE5 hb3_1); (try replace hb3_2 := Ext.cell_some hE5 hb3_2); (try replace hb4_0 := Ext.cell_some hE5 hb4_0); (try replace hb4_1 := Ext.cell_some hE5 hb4_1); (try replace hb4_2 := Ext.cell_some hE5 hb4_2); (try replace hb5_0 := Ext.cell_some hE5 hb5_0); (try replace hb5_1 := Ext.cell_some hE5 hb5_1); (try replace hb5_2 := Ext.cell_some hE5 hb5_2); have hb5_0 := hB5.cell 0; have hb5_1 := hB5.cell 1; have hb5_2 := hB5.cell 2; simp at hb5_0 hb5_1 hb5_2; clear hE5))
            all_goals (go_ret; exact ⟨rfl, hE⟩)
          · skip
            have hone2 : (t.length : Int) = 1 := by omega
            have honeH := Lib.hid hone2
            clear hone
            refine wp_region_quiet_lit (by kernel_rfl) (by kernel_rfl) ?_
            repeat (any_goals (first | go_big_quiet_step (fail) | quiet_step (fail)))
            refine wpQuiet_nil ?_
            intro _ hw'
            obtain ⟨nq, hw''⟩ := hw'
            subst hw''
            have hqE : Ext Wc (Wc.drewN nq) := (Ext.refl Wc).drewN nq
            (try replace hE := Ext.trans hE hqE)
            (try replace hF := hF.ext hqE)
            (try replace hM := hM.ext hqE)
            (try replace hT := hT.ext hqE)
            
            
            
            
            
            
            
            
            
            
            (try replace hI1 := hI1.ext hqE)
            (try replace hI2 := hI2.ext hqE)
            
            (try replace hB3 := hB3.ext hqE)
            (try replace hB4 := hB4.ext hqE)
            (try replace hD := hD.ext hqE)
            (try replace h21 := h21.ext hqE)
            (try replace hFd := hFd.ext hqE)
            (try replace hMd := hMd.ext hqE)
            (try replace hCd := hCd.ext hqE)
            (try replace hB14 := hB14.ext hqE)
            
            
            
            (try replace hb3_0 := Ext.cell_some hqE hb3_0)
            (try replace hb3_1 := Ext.cell_some hqE hb3_1)
            (try replace hb3_2 := Ext.cell_some hqE hb3_2)
            (try replace hb4_0 := Ext.cell_some hqE hb4_0)
            (try replace hb4_1 := Ext.cell_some hqE hb4_1)
            (try replace hb4_2 := Ext.cell_some hqE hb4_2)
            (try replace hb5_0 := Ext.cell_some hqE hb5_0)
            (try replace hb5_1 := Ext.cell_some hqE hb5_1)
            (try replace hb5_2 := Ext.cell_some hqE hb5_2)
            (try replace e140 := Ext.cell_some hqE e140)
            (try replace e141 := Ext.cell_some hqE e141)
            (try replace e142 := Ext.cell_some hqE e142)
            (try replace et := Ext.cell_some hqE et)
            clear hqE
            go_wp2_with (first | ((go_at_call 24; refine (Awake_any _ (hv.ext hE)).mono ?_; rintro e Wc ⟨rfl, hEx⟩; (try replace hE := Ext.trans hE hEx); (try replace hF := hF.ext hEx); (try replace hM := hM.ext hEx); (try replace hT := hT.ext hEx); (try replace hI1 := hI1.ext hEx); (try replace hI2 := hI2.ext hEx); (try replace hB3 := hB3.ext hEx); (try replace hB4 := hB4.ext hEx); (try replace hD := hD.ext hEx); (try replace h21 := h21.ext hEx); (try replace hFd := hFd.ext hEx); (try replace hMd := hMd.ext hEx); (try replace hCd := hCd.ext hEx); (try replace hB14 := hB14.ext hEx); (try replace hb3_0 := Ext.cell_some hEx hb3_0); (try replace hb3_1 := Ext.cell_some hEx hb3_1); (try replace hb3_2 := Ext.cell_some hEx hb3_2); (try replace hb4_0 := Ext.cell_some hEx hb4_0); (try replace hb4_1 := Ext.cell_some hEx hb4_1); (try replace hb4_2 := Ext.cell_some hEx hb4_2); (try replace hb5_0 := Ext.cell_some hEx hb5_0); (try replace hb5_1 := Ext.cell_some hEx hb5_1); (try replace hb5_2 := Ext.cell_some hEx hb5_2); (try replace e140 := Ext.cell_some hEx e140); (try replace e141 := Ext.cell_some hEx e141); (try replace e142 := Ext.cell_some hEx e142); (try replace et := Ext.cell_some hEx et); clear hEx)) | ((with_reducible refine q_box (d := some 3) ?_); intro W3 g3 hE3 hB3 hg3; simp [Act.eval, Act.put, Value.cells] at hB3; (try replace hE := hE.trans hE3); (try replace hF := hF.ext hE3); (try replace hM := hM.ext hE3); (try replace hD := hD.ext hE3); (try replace hI1 := hI1.ext hE3); (try replace hI2 := hI2.ext hE3); (try replace hB3 := hB3.ext hE3); (try replace hB4 := hB4.ext hE3); (try replace hB5 := hB5.ext hE3); (try replace hb3_0 := Ext.cell_some hE3 hb3_0); (try replace hb3_1 := Ext.cell_some hE3 hb3_1); (try replace hb3_2 := Ext.cell_some hE3 hb3_2); (try replace hb4_0 := Ext.cell_some hE3 hb4_0); (try replace hb4_1 := Ext.cell_some hE3 hb4_1); (try replace hb4_2 := Ext.cell_some hE3 hb4_2); (try replace hb5_0 := Ext.cell_some hE3 hb5_0); (try replace hb5_1 := Ext.cell_some hE3 hb5_1); (try replace hb5_2 := Ext.cell_some hE3 hb5_2); have hb3_0 := hB3.cell 0; have hb3_1 := hB3.cell 1; have hb3_2 := hB3.cell 2; simp at hb3_0 hb3_1 hb3_2; clear hE3) | ((with_reducible refine q_box (d := some 4) ?_); intro W4 g4 hE4 hB4 hg4; simp [Act.eval, Act.put, Value.cells] at hB4; (try replace hE := hE.trans hE4); (try replace hF := hF.ext hE4); (try replace hM := hM.ext hE4); (try replace hD := hD.ext hE4); (try replace hI1 := hI1.ext hE4); (try replace hI2 := hI2.ext hE4); (try replace hB3 := hB3.ext hE4); (try replace hB4 := hB4.ext hE4); (try replace hB5 := hB5.ext hE4); (try replace hb3_0 := Ext.cell_some hE4 hb3_0); (try replace hb3_1 := Ext.cell_some hE4 hb3_1); (try replace hb3_2 := Ext.cell_some hE4 hb3_2); (try replace hb4_0 := Ext.cell_some hE4 hb4_0); (try replace hb4_1 := Ext.cell_some hE4 hb4_1); (try replace hb4_2 := Ext.cell_some hE4 hb4_2); (try replace hb5_0 := Ext.cell_some hE4 hb5_0); (try replace hb5_1 := Ext.cell_some hE4 hb5_1); (try replace hb5_2 := Ext.cell_some hE4 hb5_2); have hb4_0 := hB4.cell 0; have hb4_1 := hB4.cell 1; have hb4_2 := hB4.cell 2; simp at hb4_0 hb4_1 hb4_2; clear hE4) | ((with_reducible refine q_box (d := some 5) ?_); intro W5 g5 hE5 hB5 hg5; simp [Act.eval, Act.put, Value.cells] at hB5; (try replace hE := hE.trans hE5); (try replace hF := hF.ext hE5); (try replace hM := hM.ext hE5); (try replace hD := hD.ext hE5); (try replace hI1 := hI1.ext hE5); (try replace hI2 := hI2.ext hE5); (try replace hB3 := hB3.ext hE5); (try replace hB4 := hB4.ext hE5); (try replace hB5 := hB5.ext hE5); (try replace hb3_0 := Ext.cell_some hE5 hb3_0); (try replace hb3_1 := Ext.cell_some hE5 hb3_1); (try replace hb3_2 := Ext.cell_some hE5 hb3_2); (try replace hb4_0 := Ext.cell_some hE5 hb4_0); (try replace hb4_1 := Ext.cell_some hE5 hb4_1); (try replace hb4_2 := Ext.cell_some hE5 hb4_2); (try replace hb5_0 := Ext.cell_some hE5 hb5_0); (try replace hb5_1 := Ext.cell_some hE5 hb5_1); (try replace hb5_2 := Ext.cell_some hE5 hb5_2); have hb5_0 := hB5.cell 0; have hb5_1 := hB5.cell 1; have hb5_2 := hB5.cell 2; simp at hb5_0 hb5_1 hb5_2; clear hE5))
            all_goals (go_ret; exact ⟨rfl, hE⟩)
          · skip
            have hone2 : ¬ ((t.length : Int) = 1) := by omega
            refine wp_region_quiet_lit (by kernel_rfl) (by kernel_rfl) ?_
            repeat (any_goals (first | go_big_quiet_step (fail) | quiet_step (fail)))
            refine wpQuiet_nil ?_
            intro _ hw'
            obtain ⟨nq, hw''⟩ := hw'
            subst hw''
            have hqE : Ext Wc (Wc.drewN nq) := (Ext.refl Wc).drewN nq
            obtain ⟨n', p', hjl, hpp⟩ := H5.out k2 hkk (by omega) hone
            obtain ⟨lf, hlf⟩ : ∃ l, (without c t [(k2 : Int) + 1]).1 = l := ⟨_, rfl⟩
            rw [hlf] at hjl
            have Hlf := Lib.hid hlf; have Hjl := Lib.hid hjl
            clear hlf hjl
            obtain rfl : p' = true := by simpa using hpp
            (try replace hE := Ext.trans hE hqE)
            (try replace hF := hF.ext hqE)
            (try replace hM := hM.ext hqE)
            (try replace hT := hT.ext hqE)
            
            
            
            
            
            
            
            
            
            
            (try replace hI1 := hI1.ext hqE)
            (try replace hI2 := hI2.ext hqE)
            
            (try replace hB3 := hB3.ext hqE)
            (try replace hB4 := hB4.ext hqE)
            (try replace hD := hD.ext hqE)
            (try replace h21 := h21.ext hqE)
            (try replace hFd := hFd.ext hqE)
            (try replace hMd := hMd.ext hqE)
            (try replace hCd := hCd.ext hqE)
            (try replace hB14 := hB14.ext hqE)
            
            
            
            (try replace hb3_0 := Ext.cell_some hqE hb3_0)
            (try replace hb3_1 := Ext.cell_some hqE hb3_1)
            (try replace hb3_2 := Ext.cell_some hqE hb3_2)
            (try replace hb4_0 := Ext.cell_some hqE hb4_0)
            (try replace hb4_1 := Ext.cell_some hqE hb4_1)
            (try replace hb4_2 := Ext.cell_some hqE hb4_2)
            (try replace hb5_0 := Ext.cell_some hqE hb5_0)
            (try replace hb5_1 := Ext.cell_some hqE hb5_1)
            (try replace hb5_2 := Ext.cell_some hqE hb5_2)
            (try replace e140 := Ext.cell_some hqE e140)
            (try replace e141 := Ext.cell_some hqE e141)
            (try replace e142 := Ext.cell_some hqE e142)
            (try replace et := Ext.cell_some hqE et)
            clear hqE
            go_wp2_with (first | (((with_reducible refine q_bsI (d := some 134) (n := (k2 : Int) + 1) ?_ ?_); (first | rfl | go_num); intro W134 g134 hE134 hB134 hg134; (try replace hE := Ext.trans hE hE134); (try replace hF := hF.ext hE134); (try replace hM := hM.ext hE134); (try replace hT := hT.ext hE134); (try replace hI1 := hI1.ext hE134); (try replace hI2 := hI2.ext hE134); (try replace hB3 := hB3.ext hE134); (try replace hB4 := hB4.ext hE134); (try replace hD := hD.ext hE134); (try replace h21 := h21.ext hE134); (try replace hFd := hFd.ext hE134); (try replace hMd := hMd.ext hE134); (try replace hCd := hCd.ext hE134); (try replace hB14 := hB14.ext hE134); (try replace hb3_0 := Ext.cell_some hE134 hb3_0); (try replace hb3_1 := Ext.cell_some hE134 hb3_1); (try replace hb3_2 := Ext.cell_some hE134 hb3_2); (try replace hb4_0 := Ext.cell_some hE134 hb4_0); (try replace hb4_1 := Ext.cell_some hE134 hb4_1); (try replace hb4_2 := Ext.cell_some hE134 hb4_2); (try replace hb5_0 := Ext.cell_some hE134 hb5_0); (try replace hb5_1 := Ext.cell_some hE134 hb5_1); (try replace hb5_2 := Ext.cell_some hE134 hb5_2); (try replace e140 := Ext.cell_some hE134 e140); (try replace e141 := Ext.cell_some hE134 e141); (try replace e142 := Ext.cell_some hE134 e142); (try replace et := Ext.cell_some hE134 et); clear hE134 hg134)) | ((go_at_call 50; refine (Without_any _ _ _ c t [(k2 : Int) + 1] _ (CodeV.of hF hM HW.out) hI1.ints (OwnI.of_blk (B := 0) hB134 (Nat.zero_le _)).ints (by have := Htl.out; omega)).mono ?_; rw [show (without c t [(k2 : Int) + 1]).1 = lf from Hlf.out]; rintro e Wc ⟨v21, rfl, h21, hEx⟩; (try replace hE := Ext.trans hE hEx); (try replace hF := hF.ext hEx); (try replace hM := hM.ext hEx); (try replace hT := hT.ext hEx); (try replace hI1 := hI1.ext hEx); (try replace hI2 := hI2.ext hEx); (try replace hB3 := hB3.ext hEx); (try replace hB4 := hB4.ext hEx); (try replace hD := hD.ext hEx); (try replace hFd := hFd.ext hEx); (try replace hMd := hMd.ext hEx); (try replace hCd := hCd.ext hEx); (try replace hB14 := hB14.ext hEx); (try replace hb3_0 := Ext.cell_some hEx hb3_0); (try replace hb3_1 := Ext.cell_some hEx hb3_1); (try replace hb3_2 := Ext.cell_some hEx hb3_2); (try replace hb4_0 := Ext.cell_some hEx hb4_0); (try replace hb4_1 := Ext.cell_some hEx hb4_1); (try replace hb4_2 := Ext.cell_some hEx hb4_2); (try replace hb5_0 := Ext.cell_some hEx hb5_0); (try replace hb5_1 := Ext.cell_some hEx hb5_1); (try replace hb5_2 := Ext.cell_some hEx hb5_2); (try replace e140 := Ext.cell_some hEx e140); (try replace e141 := Ext.cell_some hEx e141); (try replace e142 := Ext.cell_some hEx e142); (try replace et := Ext.cell_some hEx et); clear hEx; obtain ⟨A21, c21, hve21, _, _, _, _⟩ := h21.ints; subst hve21)) | ((go_at_call 19; refine (PJudge_any _ _ c lf _ (CodeV.of hF hM HW.out) h21.ints).mono ?_; rw [Hjl.out]; rintro e Wc ⟨rfl, hEx⟩; (try replace hE := Ext.trans hE hEx); (try replace hF := hF.ext hEx); (try replace hM := hM.ext hEx); (try replace hT := hT.ext hEx); (try replace hI1 := hI1.ext hEx); (try replace hI2 := hI2.ext hEx); (try replace hB3 := hB3.ext hEx); (try replace hB4 := hB4.ext hEx); (try replace hD := hD.ext hEx); (try replace h21 := h21.ext hEx); (try replace hFd := hFd.ext hEx); (try replace hMd := hMd.ext hEx); (try replace hCd := hCd.ext hEx); (try replace hB14 := hB14.ext hEx); (try replace hb3_0 := Ext.cell_some hEx hb3_0); (try replace hb3_1 := Ext.cell_some hEx hb3_1); (try replace hb3_2 := Ext.cell_some hEx hb3_2); (try replace hb4_0 := Ext.cell_some hEx hb4_0); (try replace hb4_1 := Ext.cell_some hEx hb4_1); (try replace hb4_2 := Ext.cell_some hEx hb4_2); (try replace hb5_0 := Ext.cell_some hEx hb5_0); (try replace hb5_1 := Ext.cell_some hEx hb5_1); (try replace hb5_2 := Ext.cell_some hEx hb5_2); (try replace e140 := Ext.cell_some hEx e140); (try replace e141 := Ext.cell_some hEx e141); (try replace e142 := Ext.cell_some hEx e142); (try replace et := Ext.cell_some hEx et); clear hEx)) | ((go_at_call 24; refine (Awake_any _ (hv.ext hE)).mono ?_; rintro e Wc ⟨rfl, hEx⟩; (try replace hE := Ext.trans hE hEx); (try replace hF := hF.ext hEx); (try replace hM := hM.ext hEx); (try replace hT := hT.ext hEx); (try replace hI1 := hI1.ext hEx); (try replace hI2 := hI2.ext hEx); (try replace hB3 := hB3.ext hEx); (try replace hB4 := hB4.ext hEx); (try replace hD := hD.ext hEx); (try replace h21 := h21.ext hEx); (try replace hFd := hFd.ext hEx); (try replace hMd := hMd.ext hEx); (try replace hCd := hCd.ext hEx); (try replace hB14 := hB14.ext hEx); (try replace hb3_0 := Ext.cell_some hEx hb3_0); (try replace hb3_1 := Ext.cell_some hEx hb3_1); (try replace hb3_2 := Ext.cell_some hEx hb3_2); (try replace hb4_0 := Ext.cell_some hEx hb4_0); (try replace hb4_1 := Ext.cell_some hEx hb4_1); (try replace hb4_2 := Ext.cell_some hEx hb4_2); (try replace hb5_0 := Ext.cell_some hEx hb5_0); (try replace hb5_1 := Ext.cell_some hEx hb5_1); (try replace hb5_2 := Ext.cell_some hEx hb5_2); (try replace e140 := Ext.cell_some hEx e140); (try replace e141 := Ext.cell_some hEx e141); (try replace e142 := Ext.cell_some hEx e142); (try replace et := Ext.cell_some hEx et); clear hEx)) | ((with_reducible refine q_box (d := some 3) ?_); intro W3 g3 hE3 hB3 hg3; simp [Act.eval, Act.put, Value.cells] at hB3; (try replace hE := hE.trans hE3); (try replace hF := hF.ext hE3); (try replace hM := hM.ext hE3); (try replace hD := hD.ext hE3); (try replace hI1 := hI1.ext hE3); (try replace hI2 := hI2.ext hE3); (try replace hB3 := hB3.ext hE3); (try replace hB4 := hB4.ext hE3); (try replace hB5 := hB5.ext hE3); (try replace hb3_0 := Ext.cell_some hE3 hb3_0); (try replace hb3_1 := Ext.cell_some hE3 hb3_1); (try replace hb3_2 := Ext.cell_some hE3 hb3_2); (try replace hb4_0 := Ext.cell_some hE3 hb4_0); (try replace hb4_1 := Ext.cell_some hE3 hb4_1); (try replace hb4_2 := Ext.cell_some hE3 hb4_2); (try replace hb5_0 := Ext.cell_some hE3 hb5_0); (try replace hb5_1 := Ext.cell_some hE3 hb5_1); (try replace hb5_2 := Ext.cell_some hE3 hb5_2); have hb3_0 := hB3.cell 0; have hb3_1 := hB3.cell 1; have hb3_2 := hB3.cell 2; simp at hb3_0 hb3_1 hb3_2; clear hE3) | ((with_reducible refine q_box (d := some 4) ?_); intro W4 g4 hE4 hB4 hg4; simp [Act.eval, Act.put, Value.cells] at hB4; (try replace hE := hE.trans hE4); (try replace hF := hF.ext hE4); (try replace hM := hM.ext hE4); (try replace hD := hD.ext hE4); (try replace hI1 := hI1.ext hE4); (try replace hI2 := hI2.ext hE4); (try replace hB3 := hB3.ext hE4); (try replace hB4 := hB4.ext hE4); (try replace hB5 := hB5.ext hE4); (try replace hb3_0 := Ext.cell_some hE4 hb3_0); (try replace hb3_1 := Ext.cell_some hE4 hb3_1); (try replace hb3_2 := Ext.cell_some hE4 hb3_2); (try replace hb4_0 := Ext.cell_some hE4 hb4_0); (try replace hb4_1 := Ext.cell_some hE4 hb4_1); (try replace hb4_2 := Ext.cell_some hE4 hb4_2); (try replace hb5_0 := Ext.cell_some hE4 hb5_0); (try replace hb5_1 := Ext.cell_some hE4 hb5_1); (try replace hb5_2 := Ext.cell_some hE4 hb5_2); have hb4_0 := hB4.cell 0; have hb4_1 := hB4.cell 1; have hb4_2 := hB4.cell 2; simp at hb4_0 hb4_1 hb4_2; clear hE4) | ((with_reducible refine q_box (d := some 5) ?_); intro W5 g5 hE5 hB5 hg5; simp [Act.eval, Act.put, Value.cells] at hB5; (try replace hE := hE.trans hE5); (try replace hF := hF.ext hE5); (try replace hM := hM.ext hE5); (try replace hD := hD.ext hE5); (try replace hI1 := hI1.ext hE5); (try replace hI2 := hI2.ext hE5); (try replace hB3 := hB3.ext hE5); (try replace hB4 := hB4.ext hE5); (try replace hB5 := hB5.ext hE5); (try replace hb3_0 := Ext.cell_some hE5 hb3_0); (try replace hb3_1 := Ext.cell_some hE5 hb3_1); (try replace hb3_2 := Ext.cell_some hE5 hb3_2); (try replace hb4_0 := Ext.cell_some hE5 hb4_0); (try replace hb4_1 := Ext.cell_some hE5 hb4_1); (try replace hb4_2 := Ext.cell_some hE5 hb4_2); (try replace hb5_0 := Ext.cell_some hE5 hb5_0); (try replace hb5_1 := Ext.cell_some hE5 hb5_1); (try replace hb5_2 := Ext.cell_some hE5 hb5_2); have hb5_0 := hB5.cell 0; have hb5_1 := hB5.cell 1; have hb5_2 := hB5.cell 2; simp at hb5_0 hb5_1 hb5_2; clear hE5))
            all_goals (go_ret; exact ⟨rfl, hE⟩)
  · have q1 : (er != 0) = true := by simp [he]
    clear h1 he
    go_enter Tryz.func14, Tryz.ntmps14
    go_wp2_with (first | ((go_at_call 18; refine (RCheck_any _ c _ (CodeV.of hF hM HW.out)).mono ?_; rw [H1.out]; rintro e Wc ⟨rfl, hEx⟩; (try replace hE := Ext.trans hE hEx); (try replace hF := hF.ext hEx); (try replace hM := hM.ext hEx); (try replace hT := hT.ext hEx); (try replace hI1 := hI1.ext hEx); (try replace hI2 := hI2.ext hEx); (try replace hB3 := hB3.ext hEx); (try replace hB4 := hB4.ext hEx); (try replace hD := hD.ext hEx); (try replace h21 := h21.ext hEx); (try replace hb3_0 := Ext.cell_some hEx hb3_0); (try replace hb3_1 := Ext.cell_some hEx hb3_1); (try replace hb3_2 := Ext.cell_some hEx hb3_2); (try replace hb4_0 := Ext.cell_some hEx hb4_0); (try replace hb4_1 := Ext.cell_some hEx hb4_1); (try replace hb4_2 := Ext.cell_some hEx hb4_2); (try replace hb5_0 := Ext.cell_some hEx hb5_0); (try replace hb5_1 := Ext.cell_some hEx hb5_1); (try replace hb5_2 := Ext.cell_some hEx hb5_2); clear hEx)) | ((go_at_call 24; refine (Awake_any _ (hv.ext hE)).mono ?_; rintro e Wc ⟨rfl, hEx⟩; (try replace hE := Ext.trans hE hEx); (try replace hF := hF.ext hEx); (try replace hM := hM.ext hEx); (try replace hT := hT.ext hEx); (try replace hI1 := hI1.ext hEx); (try replace hI2 := hI2.ext hEx); (try replace hB3 := hB3.ext hEx); (try replace hB4 := hB4.ext hEx); (try replace hD := hD.ext hEx); (try replace h21 := h21.ext hEx); (try replace hFd := hFd.ext hEx); (try replace hMd := hMd.ext hEx); (try replace hCd := hCd.ext hEx); (try replace hB14 := hB14.ext hEx); (try replace hb3_0 := Ext.cell_some hEx hb3_0); (try replace hb3_1 := Ext.cell_some hEx hb3_1); (try replace hb3_2 := Ext.cell_some hEx hb3_2); (try replace hb4_0 := Ext.cell_some hEx hb4_0); (try replace hb4_1 := Ext.cell_some hEx hb4_1); (try replace hb4_2 := Ext.cell_some hEx hb4_2); (try replace hb5_0 := Ext.cell_some hEx hb5_0); (try replace hb5_1 := Ext.cell_some hEx hb5_1); (try replace hb5_2 := Ext.cell_some hEx hb5_2); (try replace e140 := Ext.cell_some hEx e140); (try replace e141 := Ext.cell_some hEx e141); (try replace e142 := Ext.cell_some hEx e142); (try replace et := Ext.cell_some hEx et); clear hEx)) | ((with_reducible refine q_box (d := some 3) ?_); intro W3 g3 hE3 hB3 hg3; simp [Act.eval, Act.put, Value.cells] at hB3; (try replace hE := hE.trans hE3); (try replace hF := hF.ext hE3); (try replace hM := hM.ext hE3); (try replace hD := hD.ext hE3); (try replace hI1 := hI1.ext hE3); (try replace hI2 := hI2.ext hE3); (try replace hB3 := hB3.ext hE3); (try replace hB4 := hB4.ext hE3); (try replace hB5 := hB5.ext hE3); (try replace hb3_0 := Ext.cell_some hE3 hb3_0); (try replace hb3_1 := Ext.cell_some hE3 hb3_1); (try replace hb3_2 := Ext.cell_some hE3 hb3_2); (try replace hb4_0 := Ext.cell_some hE3 hb4_0); (try replace hb4_1 := Ext.cell_some hE3 hb4_1); (try replace hb4_2 := Ext.cell_some hE3 hb4_2); (try replace hb5_0 := Ext.cell_some hE3 hb5_0); (try replace hb5_1 := Ext.cell_some hE3 hb5_1); (try replace hb5_2 := Ext.cell_some hE3 hb5_2); have hb3_0 := hB3.cell 0; have hb3_1 := hB3.cell 1; have hb3_2 := hB3.cell 2; simp at hb3_0 hb3_1 hb3_2; clear hE3) | ((with_reducible refine q_box (d := some 4) ?_); intro W4 g4 hE4 hB4 hg4; simp [Act.eval, Act.put, Value.cells] at hB4; (try replace hE := hE.trans hE4); (try replace hF := hF.ext hE4); (try replace hM := hM.ext hE4); (try replace hD := hD.ext hE4); (try replace hI1 := hI1.ext hE4); (try replace hI2 := hI2.ext hE4); (try replace hB3 := hB3.ext hE4); (try replace hB4 := hB4.ext hE4); (try replace hB5 := hB5.ext hE4); (try replace hb3_0 := Ext.cell_some hE4 hb3_0); (try replace hb3_1 := Ext.cell_some hE4 hb3_1); (try replace hb3_2 := Ext.cell_some hE4 hb3_2); (try replace hb4_0 := Ext.cell_some hE4 hb4_0); (try replace hb4_1 := Ext.cell_some hE4 hb4_1); (try replace hb4_2 := Ext.cell_some hE4 hb4_2); (try replace hb5_0 := Ext.cell_some hE4 hb5_0); (try replace hb5_1 := Ext.cell_some hE4 hb5_1); (try replace hb5_2 := Ext.cell_some hE4 hb5_2); have hb4_0 := hB4.cell 0; have hb4_1 := hB4.cell 1; have hb4_2 := hB4.cell 2; simp at hb4_0 hb4_1 hb4_2; clear hE4) | ((with_reducible refine q_box (d := some 5) ?_); intro W5 g5 hE5 hB5 hg5; simp [Act.eval, Act.put, Value.cells] at hB5; (try replace hE := hE.trans hE5); (try replace hF := hF.ext hE5); (try replace hM := hM.ext hE5); (try replace hD := hD.ext hE5); (try replace hI1 := hI1.ext hE5); (try replace hI2 := hI2.ext hE5); (try replace hB3 := hB3.ext hE5); (try replace hB4 := hB4.ext hE5); (try replace hB5 := hB5.ext hE5); (try replace hb3_0 := Ext.cell_some hE5 hb3_0); (try replace hb3_1 := Ext.cell_some hE5 hb3_1); (try replace hb3_2 := Ext.cell_some hE5 hb3_2); (try replace hb4_0 := Ext.cell_some hE5 hb4_0); (try replace hb4_1 := Ext.cell_some hE5 hb4_1); (try replace hb4_2 := Ext.cell_some hE5 hb4_2); (try replace hb5_0 := Ext.cell_some hE5 hb5_0); (try replace hb5_1 := Ext.cell_some hE5 hb5_1); (try replace hb5_2 := Ext.cell_some hE5 hb5_2); have hb5_0 := hB5.cell 0; have hb5_1 := hB5.cell 1; have hb5_2 := hB5.cell 2; simp at hb5_0 hb5_1 hb5_2; clear hE5))
    go_ret
    exact ⟨rfl, hE⟩
end Go.Bp
