/- Texts P2 P3 Spec16 P4 P5 P6 MapM P7 of the proof, merged: contracts of functions of chapter 10, of the program and of the reference, and plain laws. -/
import Derived.MapKept
import Derived.Test.YthomnkgiaapljaaGreatDoorD01
import Derived.Test.YthomnkgiaapljaaGreatDoorD03
section
set_option maxRecDepth 100000
set_option linter.unusedSimpArgs false
set_option linter.unusedVariables false
namespace Go.Bp
open Go.RowKit Go.Proofs
theorem Strs.cut {w : World} {ad : Addr} {xs : List ByteArray} {cp n : Nat} (h : Strs w (.slice (some ad) xs.length cp) xs) (hn : n ≤ xs.length) : Strs w (.slice (some ad) n cp) (xs.take n) := by
  obtain ⟨A, c, hv, h1, h2, h3, h4⟩ := h
  injection hv with e1 e2 e3
  subst e1 e3
  have hl : (xs.take n).length = n := by rw [List.length_take]; omega
  unfold Strs
  rw [hl]
  refine ⟨some ad, cp, rfl, by omega, h2, by rw [encS_len, hl]; omega, fun h0 => ⟨ad, rfl, ?_⟩⟩
  obtain ⟨ad', he, hc⟩ := h4 (by omega)
  injection he with he
  subst he
  intro j u hu
  refine hc j u ?_
  have : encS (xs.take n) = (encS xs).take n := by simp [encS, List.map_take]
  rw [this, List.getElem?_take] at hu
  split at hu
  · exact hu
  · cases hu
theorem any_eq_mem {xs : List ByteArray} {s : ByteArray} : (xs.any fun x => decide (s = x)) = true ↔ s ∈ xs := by
  rw [List.any_eq_true]
  constructor
  · rintro ⟨x, hx, h⟩; rw [of_decide_eq_true h]; exact hx
  · intro h; exact ⟨s, h, by simp⟩
set_option maxHeartbeats 4000000 in
theorem PCheck_any (cv : Value) (c : Code) (w : World) (h : CodeV w cv c) : Calls Tryz.prog 17 #[cv] w (RetI3 w c.check) := by
  obtain ⟨fv, mv, rfl, hF, hM, hW⟩ := h
  obtain ⟨A, cp, rfl, h1, h2, h3, h4⟩ := hF
  have hF : Faults w (.slice A c.faults.length cp) c.faults := ⟨A, cp, rfl, h1, h2, h3, h4⟩
  obtain ⟨A', cp', rfl, h1', h2', h3', h4'⟩ := hM
  have hM : Strs w (.slice A' c.man.length cp') c.man := ⟨A', cp', rfl, h1', h2', h3', h4'⟩
  unfold maxLen at h2 h2'
  clear h3 h3' h4'
  have hE := Ext.refl w
  by_cases hi : inB c.faults.length 1 6 = true
  · by_cases hm : c.man.length ≤ 3
    · have hz := inB_t.1 hi
      obtain ⟨hz1, hz2⟩ := hz
      have hlen : c.names.length = c.faults.length + c.man.length := by simp [Code.names]
      have Hlen := Lib.hid hlen
      have hNz : ∀ s ∈ c.names, s.size ≤ maxLen := hW
      have HN := Lib.hid hNz
      have HW := Lib.hid hW
      have Hi := Lib.hid hi
      have hcb : c.faults.length ≤ 1000000 ∧ c.man.length ≤ 1000000 := by omega
      have Hcb := Lib.hid hcb
      have z3 : ¬ ((3 : Int) < c.man.length) := by omega
      clear hNz hW hcb
      go_enter Tryz.func17, Tryz.ntmps17
      go_wp2_with (first | ((go_at_call 52; refine (pout_any _ _ _ _).mono ?_; rintro e w' ⟨rfl, rfl⟩)) | ((with_reducible refine q_box (d := some 1) ?_); intro W1 g1 hE1 hB1 hg1; simp [Act.eval, Act.put, Value.cells] at hB1; (try replace hE := hE.trans hE1); (try replace hF := hF.ext hE1); (try replace hM := hM.ext hE1); (try replace hB1 := hB1.ext hE1); (try replace hb1_0 := Ext.cell_some hE1 hb1_0); (try replace hb1_1 := Ext.cell_some hE1 hb1_1); (try replace hb1_2 := Ext.cell_some hE1 hb1_2); have hb1_0 := hB1.cell 0; have hb1_1 := hB1.cell 1; have hb1_2 := hB1.cell 2; simp at hb1_0 hb1_1 hb1_2; clear hE1))
      go_region_held3 (fun w' => w'.cell? ⟨g1, 0, none⟩ = some (.slice A c.faults.length cp) ∧ w'.cell? ⟨g1, 1, none⟩ = some (.slice A' c.man.length cp') ∧ w'.cell? ⟨g1, 2, none⟩ = some (.int .i64 c.all)) (simp [*]) ((first | (go_at_call 53; ((with_reducible refine (PNames_any _ c _ (by first | exact CodeV.of hF hM HW.out | exact (CodeV.of hF hM HW.out).d) Hcb.out).mono ?_); rintro e WcN ⟨v53, rfl, hO53, hEcN⟩; (try replace hEcN := Ext.undrew hEcN); (try replace hE := hE.trans hEcN); (try replace hF := hF.ext hEcN); (try replace hM := hM.ext hEcN); (try replace hB1 := hB1.ext hEcN); (try replace hb1_0 := Ext.cell_some hEcN hb1_0); (try replace hb1_1 := Ext.cell_some hEcN hb1_1); (try replace hb1_2 := Ext.cell_some hEcN hb1_2)))))
      obtain ⟨Wl, hWl⟩ : ∃ W, W = WcN := ⟨_, rfl⟩
      subst hWl
      have hN := hO53.strs
      obtain ⟨A5, c5, rfl, n1, n2, n3, n4⟩ := hN
      obtain ⟨adn, rfl, hcn⟩ := n4 (by omega)
      clear n3 n4
      have hN := hO53.strs
      unfold maxLen at n2
      obtain ⟨T, hT⟩ : ∃ T, c.names.length = T := ⟨_, rfl⟩
      have HT := Lib.hid hT
      rw [hT] at hN n1 ⊢
      have HTl := Lib.hid (show T = c.faults.length + c.man.length by rw [← hT]; exact hlen)
      clear hT hlen
      go_wp2
      go_loopw [28] (fun i wr => Ext Wl wr ∧ ∃ k : Nat, k ≤ T ∧ i = .int .i64 k ∧ ∀ j, j < k → c.errAt j = 0) (fun i _ => T - (intOf i).toNat)
      case atStart => exact ⟨Ext.refl _, 0, by omega, rfl, by omega⟩
      case round =>
        obtain ⟨hEr, k, hk, rfl, ha⟩ := hrel
        have Ha := Lib.hid ha
        clear ha
        (try replace hE := hE.trans hEr); (try replace hF := hF.ext hEr); (try replace hM := hM.ext hEr); (try replace hB1 := hB1.ext hEr); (try replace hb1_0 := Ext.cell_some hEr hb1_0); (try replace hb1_1 := Ext.cell_some hEr hb1_1); (try replace hb1_2 := Ext.cell_some hEr hb1_2)
        replace hN := hN.ext hEr
        rw [← HT.out] at hN
        by_cases hlt : k < T
        · have hkn : k < c.names.length := by rw [HT.out]; exact hlt
          have e0 := (hcn.ext hEr).s hkn
          have Hgd := Lib.hid (getD_eq hkn)
          cases hnm : isName c.names[k] with
          | false =>
            have Hne := Lib.hid (nameErr_form (l := c.names) (i := k) (by rw [Hgd.out]; exact hnm))
            by_cases hf : k < c.faults.length
            · have z1 : ¬ ((c.faults.length : Int) ≤ k) := by omega
              have he := (Code.errAt_name (c := c) (i := k) (by rw [Hne.out]; decide)).trans Hne.out
              have Hr := Lib.hid (Code.check_f Hi.out hm hf (by rw [he]; decide) Ha.out)
              rw [he] at Hr
              clear he h4
              go_wp2_with (first | (go_at_call 54; ((with_reducible refine (PName_any _ _ (HN.out _ (List.getElem_mem hkn))).mono ?_); rintro e Wc54 ⟨rfl, hE54⟩; replace hEr := hEr.trans hE54; replace hE := hE.trans hE54; replace hF := hF.ext hE54; replace hM := hM.ext hE54; replace hN := hN.ext hE54; (try replace e0 := Ext.cell_some hE54 e0); (try replace e1 := Ext.cell_some hE54 e1); (try replace e2 := Ext.cell_some hE54 e2); replace hb1_0 := Ext.cell_some hE54 hb1_0; replace hb1_1 := Ext.cell_some hE54 hb1_1; replace hb1_2 := Ext.cell_some hE54 hb1_2)) | (go_at_call 55; refine (ContainsS_any _ _ _ _ (hN.cut (n := k) (by omega))).mono ?_; rintro e w' ⟨rfl, rfl⟩) | (go_at_call 52; refine (pout_any _ _ _ _).mono ?_; rintro e w' ⟨rfl, rfl⟩))
              go_ret3
              exact ⟨ret3_of Hr.out, hE⟩
            · have z1 : (c.faults.length : Int) ≤ k := by omega
              have he := (Code.errAt_name (c := c) (i := k) (by rw [Hne.out]; decide)).trans Hne.out
              have hkk : c.faults.length + (k - c.faults.length) = k := by omega
              have Hr := Lib.hid (Code.check_m Hi.out hm (i := k - c.faults.length) (by have := HTl.out; omega) (by rw [hkk, he]; decide) (by rw [hkk]; exact Ha.out))
              rw [hkk, he] at Hr
              have Hks := Lib.hid (show ((k - c.faults.length : Nat) : Int) = (k : Int) - c.faults.length by omega)
              clear he h4 hkk
              go_wp2_with (first | (go_at_call 54; ((with_reducible refine (PName_any _ _ (HN.out _ (List.getElem_mem hkn))).mono ?_); rintro e Wc54 ⟨rfl, hE54⟩; replace hEr := hEr.trans hE54; replace hE := hE.trans hE54; replace hF := hF.ext hE54; replace hM := hM.ext hE54; replace hN := hN.ext hE54; (try replace e0 := Ext.cell_some hE54 e0); (try replace e1 := Ext.cell_some hE54 e1); (try replace e2 := Ext.cell_some hE54 e2); replace hb1_0 := Ext.cell_some hE54 hb1_0; replace hb1_1 := Ext.cell_some hE54 hb1_1; replace hb1_2 := Ext.cell_some hE54 hb1_2)) | (go_at_call 55; refine (ContainsS_any _ _ _ _ (hN.cut (n := k) (by omega))).mono ?_; rintro e w' ⟨rfl, rfl⟩) | (go_at_call 52; refine (pout_any _ _ _ _).mono ?_; rintro e w' ⟨rfl, rfl⟩))
              go_ret3
              exact ⟨ret3_of (by rw [Hr.out, Hks.out]), hE⟩
          | true =>
            have Hnm := Lib.hid hnm
            cases htw : ((c.names.take k).any fun x => decide (c.names[k] = x)) with
            | true =>
              have Hne := Lib.hid (nameErr_twice (l := c.names) (i := k) (by rw [Hgd.out]; exact Hnm.out) (by rw [Hgd.out]; exact any_eq_mem.1 htw))
              by_cases hf : k < c.faults.length
              · have z1 : ¬ ((c.faults.length : Int) ≤ k) := by omega
                have he := (Code.errAt_name (c := c) (i := k) (by rw [Hne.out]; decide)).trans Hne.out
                have Hr := Lib.hid (Code.check_f Hi.out hm hf (by rw [he]; decide) Ha.out)
                rw [he] at Hr
                clear he h4
                go_wp2_with (first | (go_at_call 54; ((with_reducible refine (PName_any _ _ (HN.out _ (List.getElem_mem hkn))).mono ?_); rintro e Wc54 ⟨rfl, hE54⟩; replace hEr := hEr.trans hE54; replace hE := hE.trans hE54; replace hF := hF.ext hE54; replace hM := hM.ext hE54; replace hN := hN.ext hE54; (try replace e0 := Ext.cell_some hE54 e0); (try replace e1 := Ext.cell_some hE54 e1); (try replace e2 := Ext.cell_some hE54 e2); replace hb1_0 := Ext.cell_some hE54 hb1_0; replace hb1_1 := Ext.cell_some hE54 hb1_1; replace hb1_2 := Ext.cell_some hE54 hb1_2)) | (go_at_call 55; refine (ContainsS_any _ _ _ _ (hN.cut (n := k) (by omega))).mono ?_; rintro e w' ⟨rfl, rfl⟩) | (go_at_call 52; refine (pout_any _ _ _ _).mono ?_; rintro e w' ⟨rfl, rfl⟩))
                go_ret3
                exact ⟨ret3_of Hr.out, hE⟩
              · have z1 : (c.faults.length : Int) ≤ k := by omega
                have he := (Code.errAt_name (c := c) (i := k) (by rw [Hne.out]; decide)).trans Hne.out
                have hkk : c.faults.length + (k - c.faults.length) = k := by omega
                have Hr := Lib.hid (Code.check_m Hi.out hm (i := k - c.faults.length) (by have := HTl.out; omega) (by rw [hkk, he]; decide) (by rw [hkk]; exact Ha.out))
                rw [hkk, he] at Hr
                have Hks := Lib.hid (show ((k - c.faults.length : Nat) : Int) = (k : Int) - c.faults.length by omega)
                clear he h4 hkk
                go_wp2_with (first | (go_at_call 54; ((with_reducible refine (PName_any _ _ (HN.out _ (List.getElem_mem hkn))).mono ?_); rintro e Wc54 ⟨rfl, hE54⟩; replace hEr := hEr.trans hE54; replace hE := hE.trans hE54; replace hF := hF.ext hE54; replace hM := hM.ext hE54; replace hN := hN.ext hE54; (try replace e0 := Ext.cell_some hE54 e0); (try replace e1 := Ext.cell_some hE54 e1); (try replace e2 := Ext.cell_some hE54 e2); replace hb1_0 := Ext.cell_some hE54 hb1_0; replace hb1_1 := Ext.cell_some hE54 hb1_1; replace hb1_2 := Ext.cell_some hE54 hb1_2)) | (go_at_call 55; refine (ContainsS_any _ _ _ _ (hN.cut (n := k) (by omega))).mono ?_; rintro e w' ⟨rfl, rfl⟩) | (go_at_call 52; refine (pout_any _ _ _ _).mono ?_; rintro e w' ⟨rfl, rfl⟩))
                go_ret3
                exact ⟨ret3_of (by rw [Hr.out, Hks.out]), hE⟩
            | false =>
              have Hne := Lib.hid (nameErr_ok (l := c.names) (i := k) (by rw [Hgd.out]; exact Hnm.out) (by rw [Hgd.out]; intro h; rw [any_eq_mem.2 h] at htw; cases htw))
              have Htw := Lib.hid htw
              by_cases hf : k < c.faults.length
              · have z1 : ¬ ((c.faults.length : Int) ≤ k) := by omega
                have z2 : (k : Int) < c.faults.length := by omega
                obtain ⟨ad, rfl, hc⟩ := h4 (by omega)
                replace hc := hc.ext hE
                have e1 := hc.f1 hf
                have e2 := hc.f2 hf
                clear h4 hc
                cases p1 : inB c.faults[k].points 0 20 with
                | true =>
                  cases p2 : inB c.faults[k].limit 0 12 with
                  | true =>
                    have Hok := Lib.hid (Code.errAt_ok Hne.out hf p1 p2)
                    go_wp2_with (first | (go_at_call 54; ((with_reducible refine (PName_any _ _ (HN.out _ (List.getElem_mem hkn))).mono ?_); rintro e Wc54 ⟨rfl, hE54⟩; replace hEr := hEr.trans hE54; replace hE := hE.trans hE54; replace hF := hF.ext hE54; replace hM := hM.ext hE54; replace hN := hN.ext hE54; (try replace e0 := Ext.cell_some hE54 e0); (try replace e1 := Ext.cell_some hE54 e1); (try replace e2 := Ext.cell_some hE54 e2); replace hb1_0 := Ext.cell_some hE54 hb1_0; replace hb1_1 := Ext.cell_some hE54 hb1_1; replace hb1_2 := Ext.cell_some hE54 hb1_2)) | (go_at_call 55; refine (ContainsS_any _ _ _ _ (hN.cut (n := k) (by omega))).mono ?_; rintro e w' ⟨rfl, rfl⟩) | (go_at_call 52; refine (pout_any _ _ _ _).mono ?_; rintro e w' ⟨rfl, rfl⟩))
                    go_roundw
                    case rel => exact ⟨hEr, k + 1, by omega, by go_num, fun j hj => if e : j = k then e ▸ Hok.out else Ha.out j (by omega)⟩
                    case measure => simp [intOf]; omega
                  | false =>
                    have he := Code.errAt_range Hne.out hf (.inr p2)
                    have Hr := Lib.hid (Code.check_f Hi.out hm hf (by rw [he]; decide) Ha.out)
                    rw [he] at Hr
                    clear he
                    go_wp2_with (first | (go_at_call 54; ((with_reducible refine (PName_any _ _ (HN.out _ (List.getElem_mem hkn))).mono ?_); rintro e Wc54 ⟨rfl, hE54⟩; replace hEr := hEr.trans hE54; replace hE := hE.trans hE54; replace hF := hF.ext hE54; replace hM := hM.ext hE54; replace hN := hN.ext hE54; (try replace e0 := Ext.cell_some hE54 e0); (try replace e1 := Ext.cell_some hE54 e1); (try replace e2 := Ext.cell_some hE54 e2); replace hb1_0 := Ext.cell_some hE54 hb1_0; replace hb1_1 := Ext.cell_some hE54 hb1_1; replace hb1_2 := Ext.cell_some hE54 hb1_2)) | (go_at_call 55; refine (ContainsS_any _ _ _ _ (hN.cut (n := k) (by omega))).mono ?_; rintro e w' ⟨rfl, rfl⟩) | (go_at_call 52; refine (pout_any _ _ _ _).mono ?_; rintro e w' ⟨rfl, rfl⟩))
                    go_ret3
                    exact ⟨ret3_of Hr.out, hE⟩
                | false =>
                  have he := Code.errAt_range Hne.out hf (.inl p1)
                  have Hr := Lib.hid (Code.check_f Hi.out hm hf (by rw [he]; decide) Ha.out)
                  rw [he] at Hr
                  clear he
                  go_wp2_with (first | (go_at_call 54; ((with_reducible refine (PName_any _ _ (HN.out _ (List.getElem_mem hkn))).mono ?_); rintro e Wc54 ⟨rfl, hE54⟩; replace hEr := hEr.trans hE54; replace hE := hE.trans hE54; replace hF := hF.ext hE54; replace hM := hM.ext hE54; replace hN := hN.ext hE54; (try replace e0 := Ext.cell_some hE54 e0); (try replace e1 := Ext.cell_some hE54 e1); (try replace e2 := Ext.cell_some hE54 e2); replace hb1_0 := Ext.cell_some hE54 hb1_0; replace hb1_1 := Ext.cell_some hE54 hb1_1; replace hb1_2 := Ext.cell_some hE54 hb1_2)) | (go_at_call 55; refine (ContainsS_any _ _ _ _ (hN.cut (n := k) (by omega))).mono ?_; rintro e w' ⟨rfl, rfl⟩) | (go_at_call 52; refine (pout_any _ _ _ _).mono ?_; rintro e w' ⟨rfl, rfl⟩))
                  go_ret3
                  exact ⟨ret3_of Hr.out, hE⟩
              · have z1 : (c.faults.length : Int) ≤ k := by omega
                have z2 : ¬ ((k : Int) < c.faults.length) := by omega
                have Hok := Lib.hid ((Code.errAt_man (c := c) hf).trans Hne.out)
                go_wp2_with (first | (go_at_call 54; ((with_reducible refine (PName_any _ _ (HN.out _ (List.getElem_mem hkn))).mono ?_); rintro e Wc54 ⟨rfl, hE54⟩; replace hEr := hEr.trans hE54; replace hE := hE.trans hE54; replace hF := hF.ext hE54; replace hM := hM.ext hE54; replace hN := hN.ext hE54; (try replace e0 := Ext.cell_some hE54 e0); (try replace e1 := Ext.cell_some hE54 e1); (try replace e2 := Ext.cell_some hE54 e2); replace hb1_0 := Ext.cell_some hE54 hb1_0; replace hb1_1 := Ext.cell_some hE54 hb1_1; replace hb1_2 := Ext.cell_some hE54 hb1_2)) | (go_at_call 55; refine (ContainsS_any _ _ _ _ (hN.cut (n := k) (by omega))).mono ?_; rintro e w' ⟨rfl, rfl⟩) | (go_at_call 52; refine (pout_any _ _ _ _).mono ?_; rintro e w' ⟨rfl, rfl⟩))
                go_roundw
                case rel => exact ⟨hEr, k + 1, by omega, by go_num, fun j hj => if e : j = k then e ▸ Hok.out else Ha.out j (by omega)⟩
                case measure => simp [intOf]; omega
        · obtain rfl : k = T := by omega
          have Ha2 := Lib.hid (show ∀ j, j < c.things → c.errAt j = 0 from fun j hj => Ha.out j (by have := HT.out; rw [c.names_len] at this; omega))
          clear h4
          cases hall : inB c.all 0 240 with
          | true =>
            have Hr := Lib.hid (Code.check_0 Hi.out hm Ha2.out hall)
            go_wp2_with (go_at_call 52; refine (pout_any _ _ _ _).mono ?_; rintro e w' ⟨rfl, rfl⟩)
            go_ret3
            exact ⟨ret3_of Hr.out, hE⟩
          | false =>
            have Hr := Lib.hid (Code.check_4 Hi.out hm Ha2.out hall)
            go_wp2_with (go_at_call 52; refine (pout_any _ _ _ _).mono ?_; rintro e w' ⟨rfl, rfl⟩)
            go_ret3
            exact ⟨ret3_of Hr.out, hE⟩
    · have Hr := Lib.hid (Code.check_1 (c := c) (fun h => hm h.2))
      have z1 : (3 : Int) < c.man.length := by omega
      clear h4
      go_enter Tryz.func17, Tryz.ntmps17
      go_wp2_with (first | ((go_at_call 52; refine (pout_any _ _ _ _).mono ?_; rintro e w' ⟨rfl, rfl⟩)) | ((with_reducible refine q_box (d := some 1) ?_); intro W1 g1 hE1 hB1 hg1; simp [Act.eval, Act.put, Value.cells] at hB1; (try replace hE := hE.trans hE1); (try replace hEr := hEr.trans hE1); (try replace hF := hF.ext hE1); (try replace hM := hM.ext hE1); (try replace hB1 := hB1.ext hE1); (try replace hb1_0 := Ext.cell_some hE1 hb1_0); (try replace hb1_1 := Ext.cell_some hE1 hb1_1); (try replace hb1_2 := Ext.cell_some hE1 hb1_2); have hb1_0 := hB1.cell 0; have hb1_1 := hB1.cell 1; have hb1_2 := hB1.cell 2; simp at hb1_0 hb1_1 hb1_2; clear hE1))
      go_ret3
      exact ⟨ret3_of Hr.out, hE⟩
  · have Hr := Lib.hid (Code.check_1 (c := c) (fun h => hi h.1))
    simp only [Bool.not_eq_true] at hi
    clear h4
    go_enter Tryz.func17, Tryz.ntmps17
    go_wp2_with (first | ((go_at_call 52; refine (pout_any _ _ _ _).mono ?_; rintro e w' ⟨rfl, rfl⟩)) | ((with_reducible refine q_box (d := some 1) ?_); intro W1 g1 hE1 hB1 hg1; simp [Act.eval, Act.put, Value.cells] at hB1; (try replace hE := hE.trans hE1); (try replace hEr := hEr.trans hE1); (try replace hF := hF.ext hE1); (try replace hM := hM.ext hE1); (try replace hB1 := hB1.ext hE1); (try replace hb1_0 := Ext.cell_some hE1 hb1_0); (try replace hb1_1 := Ext.cell_some hE1 hb1_1); (try replace hb1_2 := Ext.cell_some hE1 hb1_2); have hb1_0 := hB1.cell 0; have hb1_1 := hB1.cell 1; have hb1_2 := hB1.cell 2; simp at hb1_0 hb1_1 hb1_2; clear hE1))
    go_ret3
    exact ⟨ret3_of Hr.out, hE⟩
end Go.Bp
end
section
set_option maxRecDepth 100000
set_option linter.unusedSimpArgs false
set_option linter.unusedVariables false
namespace Go.Bp
open Go.RowKit Go.Proofs
theorem ti87 : (Tryz.prog.info? 87).map (fun i => (i.zero, i.size, i.bytes)) = some (some (.agg (Array.replicate 9 (.int .i64 0))), 9, 72) := by kernel_rfl
theorem size87 : (Tryz.prog.info? 87).map TypeInfo.size = some 9 := by kernel_rfl
theorem info87 : ∃ i, Tryz.prog.info? 87 = some i ∧ i.size = 9 := size_of size87
theorem load_array {P : Program} {w : World} {t e : TypeId} {n : Nat} {i : TypeInfo} {p : Addr} {cs : List Value} (ht : P.underlying t = some (.array n e)) (hi : P.info? t = some i) (hs : i.size = cs.length) (hc : Cells w p cs) :
    (loadVar t p).run P w = .ok (.agg cs.toArray) w := by
  have h := run_loadCells_list (P := P) w p cs hc
  unfold loadVar isAgg
  simp [Sem.run_bind, run_underlying ht, sizeOf, typeInfo, hi, hs, h]
theorem ld_tally {w : World} {g : Nat} {l : List Int} (h : Blk w g 87 (cntArr 9 l)) : (loadVar 87 ⟨g, 0, none⟩).run Tryz.prog w = .ok (.agg (cntArr 9 l)) w := by
  obtain ⟨i, hi, hs⟩ := info87
  have := load_array (cs := (cntArr 9 l).toList) Tryz.underlying87 hi (by rw [hs]; have := cntArr_size 9 l; simpa using this.symm) h.cells
  simpa using this
theorem cnt_cell {w : World} {g : Nat} {l : List Int} (h : Blk w g 87 (cntArr 9 l)) {j : Nat} (hj : j < 9) : w.cell? ⟨g, j, none⟩ = some (.int .i64 (Code.cnt l j : Int)) := by
  rw [h.cell, cntArr_get l hj]
/-- What a store into block g leaves. -/
def Added (w : World) (g : Nat) (l : List Int) (e : Ending) (w' : World) : Prop := e = .returned (.tuple #[]) ∧ w.grownBy w' (some g) ∧ Blk w' g 87 (cntArr 9 l)
set_option maxHeartbeats 1000000 in
theorem padd_any (g : Nat) (l : List Int) (x : Int) (w : World) (hB : Blk w g 87 (cntArr 9 l)) (h0 : 0 ≤ x) (h9 : x < 9) (hl : l.length ≤ 1000) :
    Calls Tryz.prog 103 #[.pointer (some ⟨g, 0, none⟩), .int .i64 x] w (Added w g (l ++ [x])) := by
  obtain ⟨j, rfl⟩ := Int.eq_ofNat_of_zero_le h0
  have hj : j < 9 := by omega
  have hc := Code.cnt_le l j
  obtain ⟨m, hm⟩ : ∃ m, Code.cnt l j = m := ⟨_, rfl⟩
  have e1 := cnt_cell hB hj
  rw [hm] at e1 hc
  have z1 : IntKind.i64.wrap ((m : Int) + 1) = (m : Int) + 1 := IntWalk.i64_in _ (by omega)
  have hs := cntArr_snoc l hj
  rw [hm] at hs
  have Hs := Lib.hid hs
  clear hs hm
  go_enter Tryz.func103, Tryz.ntmps103
  go_wp2_with fail
  refine wp_region_tree (.take 0 (.take 1 (.take 2 (.take 3 (.take 6 (.one 4 (.take 5 (.take 7 (.one 8 .nil))))))))) (fun w' => True) (by kernel_rfl) (by kernel_rfl) (by kernel_rfl) (by kernel_rfl) (fun _ _ _ _ _ h => h) ?_ (fun hHeld => ?_)
  · (first | exact True.intro | ((try dsimp only); (repeat' apply And.intro) <;> first | assumption | (refine Ext.cell_some (Ext.todrew (Ext.refl _)) ?_; assumption)))
  refine t_take (i := 0) (v := ?_) (by (simp only [List.getElem?_toArray, List.getElem?_cons_succ, List.getElem?_cons_zero]); rfl) (by rfl) ?_ (by exact hHeld) ?_
  rotate_left
  · (intro wq hSw; (try dsimp only at hSw); go_simp; (try with_reducible rfl))
  (try simp only [Act.put, List.setIfInBounds_toArray, List.set_cons_zero, List.set_cons_succ])
  refine t_take (i := 1) (v := ?_) (by (simp only [List.getElem?_toArray, List.getElem?_cons_succ, List.getElem?_cons_zero]); rfl) (by rfl) ?_ (by exact hHeld) ?_
  rotate_left
  · (intro wq hSw; (try dsimp only at hSw); go_simp; (try with_reducible rfl))
  (try simp only [Act.put, List.setIfInBounds_toArray, List.set_cons_zero, List.set_cons_succ])
  refine t_take (i := 2) (v := ?_) (by (simp only [List.getElem?_toArray, List.getElem?_cons_succ, List.getElem?_cons_zero]); rfl) (by rfl) ?_ (by exact hHeld) ?_
  rotate_left
  · (intro wq hSw; (try dsimp only at hSw); go_simp; (try with_reducible rfl))
  (try simp only [Act.put, List.setIfInBounds_toArray, List.set_cons_zero, List.set_cons_succ])
  refine t_take (i := 3) (v := ?_) (by (simp only [List.getElem?_toArray, List.getElem?_cons_succ, List.getElem?_cons_zero]); rfl) (by rfl) ?_ (by exact hHeld) ?_
  rotate_left
  · (intro wq hSw; (try dsimp only at hSw); go_simp; (try with_reducible rfl))
  (try simp only [Act.put, List.setIfInBounds_toArray, List.set_cons_zero, List.set_cons_succ])
  refine t_take (i := 6) (v := ?_) (by (simp only [List.getElem?_toArray, List.getElem?_cons_succ, List.getElem?_cons_zero]); rfl) (by rfl) ?_ (by exact hHeld) ?_
  rotate_left
  · (intro wq hSw; (try dsimp only at hSw); go_simp; (try with_reducible rfl))
  (try simp only [Act.put, List.setIfInBounds_toArray, List.set_cons_zero, List.set_cons_succ])
  refine t_one (i := 4) (by (simp only [List.getElem?_toArray, List.getElem?_cons_succ, List.getElem?_cons_zero]); rfl) ?_
  (((with_reducible refine q_load (d := some 8) (p := ⟨g, j, none⟩) (v := .int .i64 (m : Int)) ?_ ?_ ?_); rfl; exact load_one Tryz.underlying3 rfl e1))
  clear hHeld; refine t_next ?_ (fun hHeld => ?_)
  · (first | exact True.intro | ((try dsimp only); (repeat' apply And.intro) <;> first | assumption | (refine Ext.cell_some (Ext.todrew (Ext.refl _)) ?_; assumption)))
  (try simp only [Act.put, List.setIfInBounds_toArray, List.set_cons_zero, List.set_cons_succ])
  refine t_take (i := 5) (v := ?_) (by (simp only [List.getElem?_toArray, List.getElem?_cons_succ, List.getElem?_cons_zero]); rfl) (by rfl) ?_ (by exact hHeld) ?_
  rotate_left
  · (intro wq hSw; (try dsimp only at hSw); go_simp; (try with_reducible rfl))
  (try simp only [Act.put, List.setIfInBounds_toArray, List.set_cons_zero, List.set_cons_succ])
  refine t_take (i := 7) (v := ?_) (by (simp only [List.getElem?_toArray, List.getElem?_cons_succ, List.getElem?_cons_zero]); rfl) (by rfl) ?_ (by exact hHeld) ?_
  rotate_left
  · (intro wq hSw; (try dsimp only at hSw); go_simp; (try with_reducible rfl))
  (try simp only [Act.put, List.setIfInBounds_toArray, List.set_cons_zero, List.set_cons_succ])
  refine t_one (i := 8) (by (simp only [List.getElem?_toArray, List.getElem?_cons_succ, List.getElem?_cons_zero]); rfl) ?_
  (((with_reducible refine q_store1 (t := 3) (e := 87) (g := g) (off := j) (v := .int .i64 ((m : Int) + 1)) ?_ ?_ hB.d size3 ?_ ?_ ?_ ?_); rfl; rfl; rfl; (rw [cntArr_size]; exact hj); rfl; intro Ws hBs hgrs; rw [Hs.out] at hBs))
  clear hHeld; refine t_next ?_ (fun hHeld => ?_)
  · (first | exact True.intro | ((try dsimp only); (repeat' apply And.intro) <;> first | assumption | (refine Ext.cell_some (Ext.todrew (Ext.refl _)) ?_; assumption)))
  (try simp only [Act.put, List.setIfInBounds_toArray, List.set_cons_zero, List.set_cons_succ])
  refine t_done ?_
  (go_end0; exact ⟨rfl, ⟨hgrs.os, hgrs.tape, hgrs.output, hgrs.size, hgrs.block⟩, hBs⟩)
theorem enters103 : ∀ (args : Array Value) (W : World), (callFunc 103 args).run Tryz.prog W = .ok (.enter 103 args) W := enters_of Tryz.func103 (by kernel_rfl) rfl
set_option maxHeartbeats 1000000 in
theorem peach_any (v : Value) (l : List Int) (g : Nat) (w0 w : World) (hl : Ints w0 v l) (hE0 : Ext w0 w) (hg : w0.heap.size ≤ g) (hB : Blk w g 87 (cntArr 9 [])) (hx : ∀ x ∈ l, 0 ≤ x ∧ x < 9) (hlen : l.length ≤ 1000) :
    Calls Tryz.prog 102 #[v, .func (.func 103) #[.pointer (some ⟨g, 0, none⟩)] #[]] w fun e w' => e = .returned (.tuple #[]) ∧ Ext w0 w' ∧ Blk w' g 87 (cntArr 9 l) := by
  obtain ⟨A, c, rfl, h1, h2, h3, h4⟩ := hl
  unfold maxLen at h2
  have Hx := Lib.hid hx
  have hent := enters103
  clear h3 hx
  go_enter Tryz.func102, Tryz.ntmps102
  go_wp2
  go_loopw [8] (fun i wr => Ext w0 wr ∧ ∃ k : Nat, k ≤ l.length ∧ i = .int .i64 k ∧ Blk wr g 87 (cntArr 9 (l.take k))) (fun i _ => l.length - (intOf i).toNat)
  case atStart => exact ⟨hE0, 0, by omega, rfl, hB⟩
  case round =>
    obtain ⟨hEr, k, hk, rfl, hBr⟩ := hrel
    by_cases hlt : k < l.length
    · obtain ⟨ad, rfl, hc⟩ := h4 (by omega)
      have e1 := (hc.ext hEr).i hlt
      have hx1 := (Hx.out _ (List.getElem_mem hlt)).1
      have hx2 := (Hx.out _ (List.getElem_mem hlt)).2
      have hs := take_snoc l hlt
      have Hs := Lib.hid hs
      have Hcall := Lib.hid (padd_any g (l.take k) l[k] wr hBr hx1 hx2 (by rw [List.length_take]; omega))
      clear h4 hc hs
      go_wp2_with fail
      refine Hcall.out.mono ?_
      rintro e W1 ⟨rfl, hgr, hB1⟩
      have hE1 := below_grown hEr hgr hg hEr.size
      go_wp2
      go_roundw
      case rel => exact ⟨hE1, k + 1, by omega, by go_num, by rw [Hs.out]; exact hB1⟩
      case measure => simp [intOf]; omega
    · obtain rfl : k = l.length := by omega
      rw [List.take_length] at hBr
      go_wp2
      go_end0
      exact ⟨rfl, hEr, hBr⟩
set_option maxHeartbeats 1000000 in
theorem pcount_any (v : Value) (l : List Int) (w : World) (hl : Ints w v l) (hx : ∀ x ∈ l, 0 ≤ x ∧ x < 9) (hlen : l.length ≤ 1000) :
    Calls Tryz.prog 60 #[v] w fun e w' => e = .returned (.agg (cntArr 9 l)) ∧ Ext w w' := by
  have hmf : ∀ (fn : Fn) (first cap : Array Value) (w : World), (Instr.makeFunc fn first cap).run Tryz.prog w = .ok (.func fn first cap) w := fun _ _ _ _ => rfl
  have Hx := Lib.hid hx
  clear hx
  have hE := Ext.refl w
  go_enter Tryz.func60, Tryz.ntmps60
  go_wp2_with (first | ((with_reducible refine q_alloc (d := some 2) ti87 ?_); intro W2 g2 hE2 hB2 hg2; replace hE := hE.trans hE2; have hl2 := hl.ext hE2) | ((with_reducible refine q_alloc (d := some 3) ti87 ?_); intro W3 g3 hE3 hB3 hg3; have hB30 : Blk W3 g3 87 (cntArr 9 []) := (by rw [cntArr_nil]; exact hB3)) | (go_at_call 102; ((with_reducible refine (peach_any v l g3 W2 _ hl2 hE3 hg3 hB30 Hx.out hlen).mono ?_); rintro e Wc ⟨rfl, hEc, hBc⟩; have hB2c := hB2.ext hEc; replace hE := hE.trans hEc)) | ((with_reducible refine q_load (d := some 7) (p := ⟨g3, 0, none⟩) (v := .agg (cntArr 9 l)) ?_ ?_ ?_); rfl; exact ld_tally hBc) | ((with_reducible refine q_store (t := 87) (e := 87) (g := g2) (off := 0) (n := 9) (v := .agg (cntArr 9 l)) ?_ ?_ hB2c size87 ?_ ?_ ?_ ?_); rfl; rfl; (exact cntArr_size 9 l); (simp [Value.cells]); (intro u hu; simp [Value.cells, cntArr] at hu; obtain ⟨j, _, rfl⟩ := hu; rfl); intro Ws hBs hgrs; rw [putAt_all (by have := cntArr_size 9 l; simpa [Value.cells] using this)] at hBs; replace hE := below_grown hE hgrs hg2 hE.size))
  refine ret_c1 rfl rfl rfl (ld_tally (l := l) (by simpa [Value.cells] using hBs)) ?_
  exact ⟨rfl, hE⟩
end Go.Bp
end
section
/- Plain Lean: points by tallies. -/
namespace Go.Bp
open Go.RowKit
namespace Code
def ptsTo (c : Code) (l : List Int) : Nat → Int
  | 0 => 0
  | i + 1 => ptsTo c l i + (cnt l i : Int) * c.pointsAt i
def fineTo (c : Code) (l : List Int) (k : Nat) : Bool := (List.range k).all (c.fine l)
theorem fineTo_succ (c : Code) (l : List Int) (k : Nat) : c.fineTo l (k + 1) = (c.fineTo l k && c.fine l k) := by
  unfold fineTo; rw [List.range_succ, List.all_append]; simp
theorem cnt_cons (x : Int) (l : List Int) (i : Nat) : cnt (x :: l) i = cnt l i + if x = (i : Int) then 1 else 0 := by
  unfold cnt; rw [List.countP_cons]; by_cases h : x = (i : Int) <;> simp [h]
theorem ptsTo_cons (c : Code) (x : Int) (l : List Int) (h0 : 0 ≤ x) : ∀ n : Nat, c.ptsTo (x :: l) n = c.ptsTo l n + if x < n then c.pointsAt x.toNat else 0
  | 0 => by simp [ptsTo]; omega
  | n + 1 => by
    rw [ptsTo, ptsTo, ptsTo_cons c x l h0 n, cnt_cons]
    by_cases h : x = (n : Int)
    · subst h
      rw [if_neg (by omega), if_pos rfl, if_pos (by omega)]
      have : ((n : Int)).toNat = n := by omega
      rw [this]
      have e : (((cnt l n + 1 : Nat)) : Int) * c.pointsAt n = (cnt l n : Int) * c.pointsAt n + c.pointsAt n := by
        rw [show ((cnt l n + 1 : Nat) : Int) = (cnt l n : Int) + 1 by omega, Int.add_mul, Int.one_mul]
      omega
    · rw [if_neg h]
      by_cases h2 : x < (n : Int)
      · rw [if_pos h2, if_pos (by omega), Nat.add_zero]; omega
      · rw [if_neg h2, if_neg (by omega), Nat.add_zero]; omega
theorem ptsTo_nil (c : Code) : ∀ n, c.ptsTo [] n = 0
  | 0 => rfl
  | n + 1 => by rw [ptsTo, ptsTo_nil c n]; simp [cnt]
theorem total_eq (c : Code) : ∀ l : List Int, (∀ x ∈ l, 0 ≤ x) → c.total l = c.ptsTo l c.faults.length
  | [], _ => by rw [ptsTo_nil]; rfl
  | x :: l, h => by
    rw [ptsTo_cons c x l (h x (by simp)), ← total_eq c l (fun y hy => h y (by simp [hy]))]
    unfold total pts pointsAt
    simp only [List.map_cons, List.sum_cons]
    omega
theorem Ok.pointsAt_le {c : Code} (h : c.Ok) (i : Nat) : 0 ≤ c.pointsAt i ∧ c.pointsAt i ≤ 20 := by
  unfold pointsAt
  cases hx : c.faults[i]? with
  | none => simp
  | some f =>
    obtain ⟨hi, rfl⟩ := List.getElem?_eq_some_iff.1 hx
    simpa using h.pts _ hi
theorem mul_bd {m : Nat} {p : Int} (hm : m ≤ 12) (h0 : 0 ≤ p) (h1 : p ≤ 20) : 0 ≤ (m : Int) * p ∧ (m : Int) * p ≤ 240 := by
  refine ⟨Int.mul_nonneg (by omega) h0, ?_⟩
  have h2 : (m : Int) * p ≤ 12 * p := Int.mul_le_mul_of_nonneg_right (by omega) h0
  omega
theorem ptsTo_bd {c : Code} {l : List Int} (ho : c.Ok) (hl : l.length ≤ 12) : ∀ n : Nat, 0 ≤ c.ptsTo l n ∧ c.ptsTo l n ≤ 240 * n
  | 0 => by simp [ptsTo]
  | n + 1 => by
    have ih := ptsTo_bd ho hl n
    have hp := ho.pointsAt_le n
    have := mul_bd (m := cnt l n) (by have := cnt_le l n; omega) hp.1 hp.2
    rw [ptsTo]; omega
theorem passed_eq {c : Code} {l : List Int} : c.passed l = (c.fineTo l c.things && decide (c.total l ≤ c.all)) := rfl
theorem pointsAt_eq {c : Code} {i : Nat} (h : i < c.faults.length) : c.pointsAt i = c.faults[i].points := by simp [pointsAt, h]
end Code
end Go.Bp
end
section
set_option maxRecDepth 100000
set_option linter.unusedSimpArgs false
set_option linter.unusedVariables false
namespace Go.Bp
open Go.RowKit Go.Proofs
/-- A bool and a number. -/
def RetBJ (w : World) (a : Bool) (b : Int) (e : Ending) (w' : World) : Prop := e = .returned (.tuple #[.bool a, .int .i64 b]) ∧ Ext w w'
set_option maxHeartbeats 4000000 in
theorem ppasses_any (cv : Value) (c : Code) (l : List Int) (w : World) (h : CodeV w cv c) (ho : c.Ok) (ht : c.TestOk l) :
    Calls Tryz.prog 61 #[.agg (cntArr 9 l), cv] w (RetBJ w (c.passed l) (c.total l)) := by
  obtain ⟨fv, mv, rfl, ⟨A, cp, rfl, h1, h2, h3, h4⟩, hM, hW⟩ := h
  obtain ⟨A', cp', rfl, h1', h2', h3', h4'⟩ := hM
  unfold maxLen at h2 h2'
  clear h3 h3' h4'
  have hE := Ext.refl w
  have Ho := Lib.hid ho
  have nf6 := ho.nf2
  have nm3 := ho.nm
  have hl12 := ht.1
  have Htot := Lib.hid (c.total_eq l (fun x hx => (ht.2 x hx).1))
  clear ho ht
  go_enter Tryz.func61, Tryz.ntmps61
  go_wp2_with (first | ((with_reducible refine q_box (d := some 2) ?_); intro W2 g2 hE2 hB2 hg2; have hB20 : Blk W2 g2 87 (cntArr 9 l) := hB2; replace hE := hE.trans hE2) | ((with_reducible refine q_box (d := some 3) ?_); intro W3 g3 hE3 hB3 hg3; simp [Act.eval, Act.put, Value.cells] at hB3; have hB23 := hB20.ext hE3; replace hE := hE.trans hE3; have b30 := hB3.cell 0; have b31 := hB3.cell 1; have b32 := hB3.cell 2; simp at b30 b31 b32))
  go_loopw [4, 5, 12] (fun u v i wr => Ext W3 wr ∧ ∃ k : Nat, k ≤ c.faults.length ∧ i = .int .i64 k ∧ u = .bool (c.fineTo l k) ∧ v = .int .i64 (c.ptsTo l k)) (fun _ _ i _ => c.faults.length - (intOf i).toNat)
  case atStart => exact ⟨Ext.refl _, 0, by omega, rfl, rfl, rfl⟩
  case round =>
    obtain ⟨hEr, k, hk, rfl, rfl, rfl⟩ := hrel
    have d31 := Ext.cell_some hEr b31; have d32 := Ext.cell_some hEr b32; have d30 := Ext.cell_some hEr b30
    have hT := hB23.ext hEr
    obtain ⟨hp0, hp1⟩ := Code.ptsTo_bd Ho.out hl12 k
    obtain ⟨P, hP⟩ : ∃ P, c.ptsTo l k = P := ⟨_, rfl⟩
    have HP := Lib.hid hP
    rw [hP] at hp0 hp1 ⊢
    clear hP
    by_cases hlt : k < c.faults.length
    · obtain ⟨ad, rfl, hc⟩ := h4 (by omega)
      have eS := ld_f ((hc.ext hE).ext hEr) hlt
      have hj9 : k < 9 := by omega
      have hcn := Code.cnt_le l k
      have eT := cnt_cell hT hj9
      obtain ⟨m, hm⟩ : ∃ m, Code.cnt l k = m := ⟨_, rfl⟩
      have Hm := Lib.hid hm
      rw [hm] at eT hcn
      have hpt := Ho.out.pts k hlt
      obtain ⟨p, hp⟩ : ∃ p, c.faults[k].points = p := ⟨_, rfl⟩
      obtain ⟨q, hq⟩ : ∃ q, c.faults[k].limit = q := ⟨_, rfl⟩
      rw [hp] at hpt eS
      rw [hq] at eS
      have hmp := Code.mul_bd (m := m) (by omega) hpt.1 hpt.2
      obtain ⟨hmp0, hmp1⟩ := hmp
      have z1 : IntKind.i64.wrap ((m : Int) * p) = (m : Int) * p := IntWalk.i64_in _ (by omega)
      have z2 : IntKind.i64.wrap (P + (m : Int) * p) = P + (m : Int) * p := IntWalk.i64_in _ (by omega)
      have hps : c.ptsTo l (k + 1) = P + (m : Int) * p := by rw [Code.ptsTo, HP.out, hm, Code.pointsAt_eq hlt, hp]
      have Hps := Lib.hid hps
      have Hfs := Lib.hid (Code.fineTo_succ c l k)
      have hff : c.fine l k = decide ((m : Int) ≤ q) := by rw [Code.fine_f hlt, hm, hq]
      have Hff := Lib.hid hff
      have Hz1 := Lib.hid z1; have Hz2 := Lib.hid z2
      clear hm hp hq hps hff hc h4 hpt z1 z2
      cases hf : c.fineTo l k
      all_goals
        have Hf := Lib.hid hf
        go_wp2_with (first | ((with_reducible refine q_load (d := some 16) (hl := eS) ?_ ?_); rfl) | ((with_reducible refine q_alloc (d := some 7) ti74 ?_); intro W7 g7 hE7 hB7 hg7) | ((with_reducible refine q_store (t := 74) (e := 74) (g := g7) (off := 0) (n := 3) (v := .agg #[.string c.faults[k].name, .int .i64 p, .int .i64 q]) ?_ ?_ hB7 size74 ?_ ?_ ?_ ?_); rfl; rfl; rfl; (simp [Value.cells]); (simp [Value.cells, Value.oneCell']); intro Ws hBs hgrs; simp [putAt, Value.cells] at hBs; have hEs := below_grown hE7 hgrs hg7 hE7.size; have f0 := hBs.cell 1; have f1 := hBs.cell 2; simp at f0 f1; have f2 := Ext.cell_some hEs eT; have hEt := hEr.trans hEs))
        refine wp_region_quiet_lit (by kernel_rfl) (by kernel_rfl) ?_
        repeat (any_goals (first | go_big_quiet_step (fail) | quiet_step (fail)))
        refine wpQuiet_nil ?_
        intro _ hw'
        obtain ⟨nq, hw''⟩ := hw'
        subst hw''
        go_wp2
        have z1 := Hz1.out; have z2 := Hz2.out
        refine wp_region_quiet_lit (by kernel_rfl) (by kernel_rfl) ?_
        repeat (any_goals (first | go_big_quiet_step (fail) | quiet_step (fail)))
        refine wpQuiet_nil ?_
        intro _ hw'
        obtain ⟨nq, hw''⟩ := hw'
        subst hw''
        clear z1 z2
        go_wp2
        go_roundw
        case rel => exact ⟨hEt.drewN _, k + 1, by omega, by go_num, by rw [Hfs.out, Hf.out, Hff.out]; rfl, by rw [Hps.out]⟩
        case measure => simp [intOf]; omega
    · obtain rfl : k = c.faults.length := by omega
      clear h4
      go_wp2
      obtain ⟨Wl, hWl⟩ : ∃ W, W = wr := ⟨_, rfl⟩
      subst hWl
      go_loopw [4, 38] (fun u i wr => Ext Wl wr ∧ ∃ k : Nat, k ≤ c.man.length ∧ i = .int .i64 k ∧ u = .bool (c.fineTo l (c.faults.length + k))) (fun _ i _ => c.man.length - (intOf i).toNat)
      case atStart => exact ⟨Ext.refl _, 0, by omega, rfl, rfl⟩
      case round =>
        obtain ⟨hEs, k, hk, rfl, rfl⟩ := hrel
        have f31 := Ext.cell_some hEs d31; have f32 := Ext.cell_some hEs d32; have f30 := Ext.cell_some hEs d30
        have hT2 := hT.ext hEs
        clear d31 d32 d30 b30 b31 b32
        by_cases hkt : k < c.man.length
        · have hj9 : c.faults.length + k < 9 := by omega
          have eT := cnt_cell hT2 hj9
          obtain ⟨m, hm⟩ : ∃ m, Code.cnt l (c.faults.length + k) = m := ⟨_, rfl⟩
          rw [hm] at eT
          have Hfs := Lib.hid (Code.fineTo_succ c l (c.faults.length + k))
          have hff : c.fine l (c.faults.length + k) = decide (0 < m) := by
            rw [Code.fine_m (by omega), hm]; cases m <;> simp
          have Hff := Lib.hid hff
          have z0 : ((c.faults.length : Int) + (k : Int)).toNat = c.faults.length + k := by omega
          clear hm hff
          cases hf : c.fineTo l (c.faults.length + k)
          all_goals
            have Hf := Lib.hid hf
            go_wp2
            go_roundw
            case rel => exact ⟨hEs, k + 1, by omega, by go_num, by rw [← Nat.add_assoc, Hfs.out, Hf.out, Hff.out]; rfl⟩
            case measure => simp [intOf]; omega
        · obtain rfl : k = c.man.length := by omega
          have hpa : c.passed l = (c.fineTo l (c.faults.length + c.man.length) && decide (P ≤ c.all)) := by rw [Code.passed_eq, Htot.out, HP.out]; rfl
          have Hpa := Lib.hid hpa
          have Htt := Lib.hid (show c.total l = P by rw [Htot.out, HP.out])
          clear hpa
          cases hf : c.fineTo l (c.faults.length + c.man.length)
          all_goals
            rw [hf] at Hpa
            go_wp2
            go_ret2
            exact ⟨by rw [Hpa.out, Htt.out]; rfl, hE.trans (hEr.trans hEs)⟩
end Go.Bp
end
section
set_option maxRecDepth 100000
set_option linter.unusedSimpArgs false
set_option linter.unusedVariables false
namespace Go.Bp
open Go.RowKit Go.Proofs
theorem enters101 : ∀ (args : Array Value) (W : World), (callFunc 101 args).run Tryz.prog W = .ok (.enter 101 args) W := enters_of Tryz.func101 (by kernel_rfl) rfl
theorem p101_any (x n : Int) (g : Nat) (w : World) (h1 : w.cell? ⟨g, 0, none⟩ = some (.int .i64 n)) (hn0 : 0 ≤ n) (hn : n ≤ 1000) :
    Calls Tryz.prog 101 #[.int .i64 x, .pointer (some ⟨g, 0, none⟩)] w fun e w' => e = .returned (.bool (!inB x 0 (n - 1))) ∧ w = w' := by
  go_enter Tryz.func101, Tryz.ntmps101
  go_wp2_with (go_at_call 52; refine (pout_any _ _ _ _).mono ?_; rintro e w' ⟨rfl, rfl⟩)
  go_ret
  exact ⟨rfl, rfl⟩
theorem Code.whole_any_t {c : Code} {l : List Int} (h : c.check.2.2 = 0) (h2 : inB l.length 1 12 = true) (h3 : (l.any fun x => !inB x 0 (c.things - 1)) = true) : c.whole l = 4 := by
  unfold Code.whole
  rw [if_neg (by simp [h]), if_neg (by simp [h2]), if_neg]
  intro ha
  obtain ⟨x, hx, hb⟩ := List.any_eq_true.1 h3
  rw [List.all_eq_true.1 ha x hx] at hb
  cases hb
theorem Code.whole_any_f {c : Code} {l : List Int} (h : c.check.2.2 = 0) (h2 : inB l.length 1 12 = true) (h3 : (l.any fun x => !inB x 0 (c.things - 1)) = false) : c.whole l = 0 := by
  refine Code.whole_0 h h2 fun x hx => ?_
  have := List.any_eq_false.1 h3 x hx
  simpa using this
set_option maxHeartbeats 2000000 in
theorem pwhole_any (cv lv : Value) (c : Code) (l : List Int) (w : World) (h : CodeV w cv c) (hl : Ints w lv l) :
    Calls Tryz.prog 59 #[cv, lv] w fun e w' => e = .returned (.int .i64 (c.whole l)) ∧ Ext w w' := by
  have hmf : ∀ (fn : Fn) (first cap : Array Value) (w : World), (Instr.makeFunc fn first cap).run Tryz.prog w = .ok (.func fn first cap) w := fun _ _ _ _ => rfl
  obtain ⟨fv, mv, rfl, ⟨A, cp, rfl, h1, h2, h3, h4⟩, ⟨A', cp', rfl, h1', h2', h3', h4'⟩, hW⟩ := h
  have hF : Faults w (.slice A c.faults.length cp) c.faults := ⟨A, cp, rfl, h1, h2, h3, h4⟩
  have hM : Strs w (.slice A' c.man.length cp') c.man := ⟨A', cp', rfl, h1', h2', h3', h4'⟩
  have hT := hl
  obtain ⟨At, ct, rfl, t1, t2, t3, t4⟩ := hl
  unfold maxLen at h2 h2' t2
  have hE := Ext.refl w
  have HW := Lib.hid hW
  clear hW h3 h4 h3' h4' t3 t4
  by_cases ha : c.check.2.2 = 0
  · have ho := Code.ok_of_check ha
    have nf6 := ho.nf2
    have nm3 := ho.nm
    have q1 : (c.check.2.2 != 0) = false := by simp [ha]
    cases hz : inB l.length 1 12 with
    | false =>
      have Hr := Lib.hid (Code.whole_3 ha hz)
      clear ha ho
      go_enter Tryz.func59, Tryz.ntmps59
      go_wp2_with (first | (go_at_call 17; ((with_reducible refine (PCheck_any _ c _ (by exact CodeV.of hF hM HW.out)).mono ?_); rintro e Wc1 ⟨rfl, hEc1⟩; (try replace hEc1 := Ext.undrew hEc1); (try replace hE := hE.trans hEc1); (try replace hF := hF.ext hEc1); (try replace hM := hM.ext hEc1); (try replace hT := hT.ext hEc1); (try replace hB2 := hB2.ext hEc1); (try replace hb2_0 := Ext.cell_some hEc1 hb2_0); (try replace hb2_1 := Ext.cell_some hEc1 hb2_1); (try replace hb2_2 := Ext.cell_some hEc1 hb2_2))) | (((with_reducible refine q_newvar (e := 3) (u := 8) (v := .int .i64 ((c.faults.length : Int) + c.man.length)) ti3 ?_ ?_ ?_ ?_ ?_ ?_); (intro g; rfl); (intro g; rfl); rfl; rfl; (simp [Value.cells, Value.oneCell']); intro W8 g8 hE8 hB8 hg8; simp [Value.cells] at hB8; replace hE := hE.trans hE8; replace hT := hT.ext hE8)) | ((go_at_call 52; refine (pout_any _ _ _ _).mono ?_; rintro e w' ⟨rfl, rfl⟩)) | ((with_reducible refine q_box (d := some 2) ?_); intro W2 g2 hE2 hB2 hg2; simp [Act.eval, Act.put, Value.cells] at hB2; (try replace hE := hE.trans hE2); (try replace hF := hF.ext hE2); (try replace hM := hM.ext hE2); (try replace hT := hT.ext hE2); (try replace hB2 := hB2.ext hE2); (try replace hb2_0 := Ext.cell_some hE2 hb2_0); (try replace hb2_1 := Ext.cell_some hE2 hb2_1); (try replace hb2_2 := Ext.cell_some hE2 hb2_2); have hb2_0 := hB2.cell 0; have hb2_1 := hB2.cell 1; have hb2_2 := hB2.cell 2; simp at hb2_0 hb2_1 hb2_2; clear hE2))
      go_ret
      exact ⟨ret_i Hr.out.symm, hE⟩
    | true =>
      have hthi : (c.things : Int) = (c.faults.length : Int) + c.man.length := by unfold Code.things; omega
      obtain ⟨b, hb⟩ : ∃ b, (l.any fun x => !inB x 0 (c.things - 1)) = b := ⟨_, rfl⟩
      have Hb := Lib.hid hb
      have Hthi := Lib.hid hthi
      have hwb : c.whole l = if b = true then 4 else 0 := by
        cases b with
        | true => exact Code.whole_any_t ha hz hb
        | false => exact Code.whole_any_f ha hz hb
      have Hwb := Lib.hid hwb
      clear ha ho hb hwb hthi
      go_enter Tryz.func59, Tryz.ntmps59
      go_wp2_with (first | (go_at_call 17; ((with_reducible refine (PCheck_any _ c _ (by exact CodeV.of hF hM HW.out)).mono ?_); rintro e Wc2 ⟨rfl, hEc2⟩; (try replace hEc2 := Ext.undrew hEc2); (try replace hE := hE.trans hEc2); (try replace hF := hF.ext hEc2); (try replace hM := hM.ext hEc2); (try replace hT := hT.ext hEc2); (try replace hB2 := hB2.ext hEc2); (try replace hb2_0 := Ext.cell_some hEc2 hb2_0); (try replace hb2_1 := Ext.cell_some hEc2 hb2_1); (try replace hb2_2 := Ext.cell_some hEc2 hb2_2))) | (((with_reducible refine q_newvar (e := 3) (u := 8) (v := .int .i64 ((c.faults.length : Int) + c.man.length)) ti3 ?_ ?_ ?_ ?_ ?_ ?_); (intro g; rfl); (intro g; rfl); rfl; rfl; (simp [Value.cells, Value.oneCell']); intro W8 g8 hE8 hB8 hg8; simp [Value.cells] at hB8; replace hE := hE.trans hE8; replace hT := hT.ext hE8; have b8 := hB8.cell 0; simp at b8)) | ((go_at_call 52; refine (pout_any _ _ _ _).mono ?_; rintro e w' ⟨rfl, rfl⟩)) | ((with_reducible refine q_box (d := some 2) ?_); intro W2 g2 hE2 hB2 hg2; simp [Act.eval, Act.put, Value.cells] at hB2; (try replace hE := hE.trans hE2); (try replace hF := hF.ext hE2); (try replace hM := hM.ext hE2); (try replace hT := hT.ext hE2); (try replace hB2 := hB2.ext hE2); (try replace hb2_0 := Ext.cell_some hE2 hb2_0); (try replace hb2_1 := Ext.cell_some hE2 hb2_1); (try replace hb2_2 := Ext.cell_some hE2 hb2_2); have hb2_0 := hB2.cell 0; have hb2_1 := hB2.cell 1; have hb2_2 := hB2.cell 2; simp at hb2_0 hb2_1 hb2_2; clear hE2))
      have hp : Pred W8 101 #[.pointer (some ⟨g8, 0, none⟩)] (fun x => !inB x 0 (c.things - 1)) l := by
        intro x _ W hWe
        refine (p101_any x _ g8 W (Ext.cell_some hWe b8) (by omega) (by omega)).mono fun e W' h => ⟨?_, h.2 ▸ Ext.refl _⟩
        rw [h.1, Hthi.out]
      have Hp := Lib.hid hp
      clear hp
      refine (ContainsFunc_any 101 _ _ _ l _ hT enters101 Hp.out).mono ?_
      rintro e Wc ⟨rfl, hEc⟩
      rw [Hb.out]
      replace hE := hE.trans hEc
      cases b
      all_goals
        go_wp2
        go_ret
        exact ⟨ret_i Hwb.out.symm, hE⟩
  · have q1 : (c.check.2.2 != 0) = true := by simp [ha]
    have Hr := Lib.hid (Code.whole_e (l := l) ha)
    clear ha
    go_enter Tryz.func59, Tryz.ntmps59
    go_wp2_with (first | (go_at_call 17; ((with_reducible refine (PCheck_any _ c _ (by exact CodeV.of hF hM HW.out)).mono ?_); rintro e Wc3 ⟨rfl, hEc3⟩; (try replace hEc3 := Ext.undrew hEc3); (try replace hE := hE.trans hEc3); (try replace hF := hF.ext hEc3); (try replace hM := hM.ext hEc3); (try replace hT := hT.ext hEc3); (try replace hB2 := hB2.ext hEc3); (try replace hb2_0 := Ext.cell_some hEc3 hb2_0); (try replace hb2_1 := Ext.cell_some hEc3 hb2_1); (try replace hb2_2 := Ext.cell_some hEc3 hb2_2))) | ((with_reducible refine q_box (d := some 2) ?_); intro W2 g2 hE2 hB2 hg2; simp [Act.eval, Act.put, Value.cells] at hB2; (try replace hE := hE.trans hE2); (try replace hF := hF.ext hE2); (try replace hM := hM.ext hE2); (try replace hT := hT.ext hE2); (try replace hB2 := hB2.ext hE2); (try replace hb2_0 := Ext.cell_some hE2 hb2_0); (try replace hb2_1 := Ext.cell_some hE2 hb2_1); (try replace hb2_2 := Ext.cell_some hE2 hb2_2); have hb2_0 := hB2.cell 0; have hb2_1 := hB2.cell 1; have hb2_2 := hB2.cell 2; simp at hb2_0 hb2_1 hb2_2; clear hE2))
    go_ret
    exact ⟨ret_i Hr.out.symm, hE⟩
set_option maxHeartbeats 2000000 in
theorem PJudge_any (cv lv : Value) (c : Code) (l : List Int) (w : World) (h : CodeV w cv c) (hl : Ints w lv l) : Calls Tryz.prog 19 #[cv, lv] w (RetIBI w (c.judge l)) := by
  obtain ⟨fv, mv, rfl, hF, hM, hW⟩ := h
  have hE := Ext.refl w
  have HW := Lib.hid hW
  clear hW
  by_cases ha : c.whole l = 0
  · obtain ⟨ho, ht, h1⟩ := Code.whole_zero ha
    have Ho := Lib.hid ho; have Ht := Lib.hid ht
    have Hx := Lib.hid (show ∀ x ∈ l, 0 ≤ x ∧ x < 9 from fun x hx => by have := ht.2 x hx; have := ho.thing9; omega)
    have Hl := Lib.hid (show l.length ≤ 1000 by have := ht.1; omega)
    have q1 : (c.whole l != 0) = false := by simp [ha]
    have Hr := Lib.hid (show c.judge l = (c.total l, c.passed l, 0) by unfold Code.judge; rw [if_neg (by simp [ha])])
    clear ha ho ht
    go_enter Tryz.func19, Tryz.ntmps19
    go_wp2_with (first | (go_at_call 59; ((with_reducible refine (pwhole_any _ _ c l _ (by exact CodeV.of hF hM HW.out) (by exact hl)).mono ?_); rintro e Wc1 ⟨rfl, hEc1⟩; (try replace hEc1 := Ext.undrew hEc1); (try replace hE := hE.trans hEc1); (try replace hF := hF.ext hEc1); (try replace hM := hM.ext hEc1); (try replace hl := hl.ext hEc1); (try replace hB2 := hB2.ext hEc1); (try replace hb2_0 := Ext.cell_some hEc1 hb2_0); (try replace hb2_1 := Ext.cell_some hEc1 hb2_1); (try replace hb2_2 := Ext.cell_some hEc1 hb2_2))) | ((with_reducible refine q_box (d := some 2) ?_); intro W2 g2 hE2 hB2 hg2; simp [Act.eval, Act.put, Value.cells] at hB2; (try replace hE := hE.trans hE2); (try replace hF := hF.ext hE2); (try replace hM := hM.ext hE2); (try replace hl := hl.ext hE2); (try replace hB2 := hB2.ext hE2); (try replace hb2_0 := Ext.cell_some hE2 hb2_0); (try replace hb2_1 := Ext.cell_some hE2 hb2_1); (try replace hb2_2 := Ext.cell_some hE2 hb2_2); have hb2_0 := hB2.cell 0; have hb2_1 := hB2.cell 1; have hb2_2 := hB2.cell 2; simp at hb2_0 hb2_1 hb2_2; clear hE2))
    go_region_held3 (fun w' => w'.cell? ⟨g2, 0, none⟩ = some (fv) ∧ w'.cell? ⟨g2, 1, none⟩ = some (mv) ∧ w'.cell? ⟨g2, 2, none⟩ = some (.int .i64 c.all)) (simp [*]) ((first | (go_at_call 60; ((with_reducible refine (pcount_any _ l _ (by first | exact hl | exact (hl).d) Hx.out Hl.out).mono ?_); rintro e Wc2 ⟨rfl, hEc2⟩; (try replace hEc2 := Ext.undrew hEc2); (try replace hE := hE.trans hEc2); (try replace hF := hF.ext hEc2); (try replace hM := hM.ext hEc2); (try replace hl := hl.ext hEc2); (try replace hB2 := hB2.ext hEc2); (try replace hb2_0 := Ext.cell_some hEc2 hb2_0); (try replace hb2_1 := Ext.cell_some hEc2 hb2_1); (try replace hb2_2 := Ext.cell_some hEc2 hb2_2))) | (go_at_call 61; ((with_reducible refine (ppasses_any _ c l _ (by first | exact CodeV.of hF hM HW.out | exact (CodeV.of hF hM HW.out).d) Ho.out Ht.out).mono ?_); rintro e Wc3 ⟨rfl, hEc3⟩; (try replace hEc3 := Ext.undrew hEc3); (try replace hE := hE.trans hEc3); (try replace hF := hF.ext hEc3); (try replace hM := hM.ext hEc3); (try replace hl := hl.ext hEc3); (try replace hB2 := hB2.ext hEc3); (try replace hb2_0 := Ext.cell_some hEc3 hb2_0); (try replace hb2_1 := Ext.cell_some hEc3 hb2_1); (try replace hb2_2 := Ext.cell_some hEc3 hb2_2)))))
    go_wp2
    go_ret3
    exact ⟨retIBI_of Hr.out, hE⟩
  · have q1 : (c.whole l != 0) = true := by simp [ha]
    have Hr := Lib.hid (show c.judge l = (0, false, c.whole l) by unfold Code.judge; rw [if_pos ha])
    clear ha
    go_enter Tryz.func19, Tryz.ntmps19
    go_wp2_with (first | (go_at_call 59; ((with_reducible refine (pwhole_any _ _ c l _ (by exact CodeV.of hF hM HW.out) (by exact hl)).mono ?_); rintro e Wc4 ⟨rfl, hEc4⟩; (try replace hEc4 := Ext.undrew hEc4); (try replace hE := hE.trans hEc4); (try replace hF := hF.ext hEc4); (try replace hM := hM.ext hEc4); (try replace hl := hl.ext hEc4); (try replace hB2 := hB2.ext hEc4); (try replace hb2_0 := Ext.cell_some hEc4 hb2_0); (try replace hb2_1 := Ext.cell_some hEc4 hb2_1); (try replace hb2_2 := Ext.cell_some hEc4 hb2_2))) | ((with_reducible refine q_box (d := some 2) ?_); intro W2 g2 hE2 hB2 hg2; simp [Act.eval, Act.put, Value.cells] at hB2; (try replace hE := hE.trans hE2); (try replace hF := hF.ext hE2); (try replace hM := hM.ext hE2); (try replace hl := hl.ext hE2); (try replace hB2 := hB2.ext hE2); (try replace hb2_0 := Ext.cell_some hE2 hb2_0); (try replace hb2_1 := Ext.cell_some hE2 hb2_1); (try replace hb2_2 := Ext.cell_some hE2 hb2_2); have hb2_0 := hB2.cell 0; have hb2_1 := hB2.cell 1; have hb2_2 := hB2.cell 2; simp at hb2_0 hb2_1 hb2_2; clear hE2))
    go_ret3
    exact ⟨retIBI_of Hr.out, hE⟩
end Go.Bp
end
section
set_option maxRecDepth 100000
set_option linter.unusedSimpArgs false
set_option linter.unusedVariables false
namespace Go.Bp
open Go.RowKit Go.Proofs
set_option maxHeartbeats 1000000 in
theorem prising_any (F : FuncId) (cap : Array Value) (p : Int → Bool) (v : Value) (l : List Int) (w : World) (h : Ints w v l)
    (hF : ∀ (args : Array Value) (W : World), (callFunc F args).run Tryz.prog W = .ok (.enter F args) W) (hp : Pred w F cap p l) :
    Calls Tryz.prog 68 #[v, .func (.func F) #[] cap] w fun e w' => e = .returned (.int .i64 (rising p l)) ∧ Ext w w' := by
  obtain ⟨A, c, rfl, h1, h2, h3, h4⟩ := h
  unfold maxLen at h2
  clear h3
  have Hp := Lib.hid hp
  clear hp
  go_enter Tryz.func68, Tryz.ntmps68
  go_wp2
  go_loopw [9] (fun i wr => Ext w wr ∧ ∃ k : Nat, k ≤ l.length ∧ i = .int .i64 k ∧ rising p l = risingFrom p (prevAt l k) (l.drop k)) (fun i _ => l.length - (intOf i).toNat)
  case atStart => exact ⟨Ext.refl _, 0, by omega, rfl, rfl⟩
  case round =>
    obtain ⟨hEr, k, hk, rfl, hn⟩ := hrel
    have Hn := Lib.hid hn
    clear hn
    by_cases hlt : k < l.length
    · obtain ⟨ad, rfl, hc⟩ := h4 (by omega)
      have e1 := (hc.ext hEr).i hlt
      have hcall := Hp.out l[k] (List.getElem_mem hlt) wr hEr
      have Hcall := Lib.hid hcall
      clear h4 hcall
      cases hpk : p l[k] with
      | false =>
        have Hr := Lib.hid (rising_bad1 hlt hpk Hn.out)
        rw [hpk] at Hcall
        clear hc
        go_wp2_with fail
        refine Hcall.out.mono ?_
        rintro e W1 ⟨rfl, hE1⟩
        go_wp2
        go_ret
        exact ⟨ret_i Hr.out.symm, hEr.trans hE1⟩
      | true =>
        have Hpk := Lib.hid hpk
        rw [hpk] at Hcall
        clear hpk
        by_cases h0 : 0 < k
        · have hk1 : k - 1 < l.length := by omega
          have e2 := (hc.ext hEr).i hk1
          have z0 : (0 : Int) < k := by omega
          have z1 : IntKind.i64.wrap ((k : Int) - 1) = (k : Int) - 1 := IntWalk.i64_in _ (by omega)
          have z4 : ((k : Int) - 1).toNat = k - 1 := by omega
          have z5 : (k : Int) - 1 < l.length := by omega
          have hpr := prevAt_pos l h0 hlt
          have Hpr := Lib.hid hpr
          clear hc hpr
          by_cases hle : l[k] ≤ l[k - 1]
          · have Hr := Lib.hid (rising_bad2 hlt Hpk.out (by rw [Hpr.out]; simpa using hle) Hn.out)
            go_wp2_with fail
            refine Hcall.out.mono ?_
            rintro e W1 ⟨rfl, hE1⟩
            replace e2 := Ext.cell_some hE1 e2
            go_wp2
            go_ret
            exact ⟨ret_i Hr.out.symm, hEr.trans hE1⟩
          · have Hr := Lib.hid (rising_good hlt Hpk.out (by rw [Hpr.out]; simpa using hle) Hn.out)
            go_wp2_with fail
            refine Hcall.out.mono ?_
            rintro e W1 ⟨rfl, hE1⟩
            replace e2 := Ext.cell_some hE1 e2
            go_wp2
            go_roundw
            case rel => exact ⟨hEr.trans hE1, k + 1, by omega, by go_num, Hr.out⟩
            case measure => simp [intOf]; omega
        · have z0 : ¬ ((0 : Int) < k) := by omega
          have Hr := Lib.hid (rising_good hlt Hpk.out (by rw [prevAt_none h0]; rfl) Hn.out)
          clear hc
          go_wp2_with fail
          refine Hcall.out.mono ?_
          rintro e W1 ⟨rfl, hE1⟩
          go_wp2
          go_roundw
          case rel => exact ⟨hEr.trans hE1, k + 1, by omega, by go_num, Hr.out⟩
          case measure => simp [intOf]; omega
    · obtain rfl : k = l.length := by omega
      have Hr := Lib.hid (rising_end Hn.out)
      clear h4
      go_wp2
      go_ret
      exact ⟨ret_i Hr.out.symm, hEr⟩
theorem enters69 : ∀ (args : Array Value) (W : World), (callFunc 69 args).run Tryz.prog W = .ok (.enter 69 args) W := enters_of Tryz.func69 (by kernel_rfl) rfl
theorem has_numbers (m : Nat) (n : Int) : hasB (numbers m) n = inB n 1 m := by
  rw [Bool.eq_iff_iff]; unfold hasB; rw [decide_eq_true_iff, mem_numbers, inB_t]
theorem p69_any (x : Int) (A : Option Addr) (ct m : Nat) (g : Nat) (w : World) (h1 : w.cell? ⟨g, 0, none⟩ = some (.slice A m ct)) (hm : m ≤ 1000) :
    Calls Tryz.prog 69 #[.int .i64 x, .pointer (some ⟨g, 0, none⟩)] w fun e w' => e = .returned (.bool (hasB (numbers m) x)) ∧ w = w' := by
  have Hh := Lib.hid (has_numbers m x)
  go_enter Tryz.func69, Tryz.ntmps69
  go_wp2_with (go_at_call 52; refine (pout_any _ _ _ _).mono ?_; rintro e w' ⟨rfl, rfl⟩)
  go_ret
  exact ⟨ret_b (by simp [Hh.out]), rfl⟩
theorem any_has (l : List Int) (n : Int) : (l.any fun x => decide (n = x)) = hasB l n := by
  rw [Bool.eq_iff_iff, List.any_eq_true]; unfold hasB; rw [decide_eq_true_iff]
  constructor
  · rintro ⟨x, hx, h⟩; rw [of_decide_eq_true h]; exact hx
  · intro h; exact ⟨n, h, by simp⟩
set_option maxHeartbeats 4000000 in
theorem PKeep_any (cv tv lv : Value) (c : Code) (t lo : List Int) (w : World) (h : CodeV w cv c) (ht : Ints w tv t) (hl : Ints w lv lo) :
    Calls Tryz.prog 25 #[cv, tv, lv] w (RetSI w (keepAns c t lo).1 (keepAns c t lo).2) := by
  have hmf : ∀ (fn : Fn) (first cap : Array Value) (w : World), (Instr.makeFunc fn first cap).run Tryz.prog w = .ok (.func fn first cap) w := fun _ _ _ _ => rfl
  obtain ⟨fv, mv, rfl, hF, hM, hW⟩ := h
  have hT := ht
  obtain ⟨At, ct, rfl, t1, t2, t3, t4⟩ := ht
  have hL := hl
  obtain ⟨Al, cl, rfl, l1, l2, l3, l4⟩ := hl
  unfold maxLen at t2 l2
  have hE := Ext.refl w
  have HW := Lib.hid hW
  clear hW t3 l3 l4
  by_cases ha : c.whole t = 0
  · obtain ⟨ho, htk, h1⟩ := Code.whole_zero ha
    have Ho := Lib.hid ho; have Htk := Lib.hid htk
    have ht12 := htk.1
    have q1 : (c.whole t != 0) = false := by simp [ha]
    have hcell : (1 : Nat) = 1 := rfl
    by_cases hr : rising (hasB (numbers t.length)) lo = 0
    · have q2 : (rising (hasB (numbers t.length)) lo != 0) = false := by simp [hr]
      by_cases h3 : lo.length ≤ 3
      · have q3 : ¬ ((3 : Int) < lo.length) := by omega
        have Hr := Lib.hid (keep_0 (keepErr_0 ha hr h3))
        clear ha hr ho htk
        rw [Hr.out]
        go_enter Tryz.func25, Tryz.ntmps25
        go_wp2_with (first | (((with_reducible refine q_alloc (d := some 6) ti39 ?_); intro W6 g6 hE6 hB6 hg6; have kF0 := hF; have kM0 := hM; have kT0 := hT; have kL0 := hL; have k30 := hb3_0; have k31 := hb3_1; have k32 := hb3_2; have k40 := hb4_0; have kE0 := hE; have kE4 := hE6; have hg60 : w.heap.size ≤ g6 := Nat.le_trans hE.size hg6; have hB60 : Blk W6 g6 39 #[.int .i64 0, .slice none 0 0] := hB6; replace hE := hE.trans hE6; replace hF := hF.ext hE6; replace hM := hM.ext hE6; replace hT := hT.ext hE6; replace hL := hL.ext hE6; replace hb3_0 := Ext.cell_some hE6 hb3_0; replace hb3_1 := Ext.cell_some hE6 hb3_1; replace hb3_2 := Ext.cell_some hE6 hb3_2; replace hb4_0 := Ext.cell_some hE6 hb4_0)) | (go_at_call 59; ((with_reducible refine (pwhole_any _ _ c t _ (by exact CodeV.of hF hM HW.out) (by exact hT)).mono ?_); rintro e Wc59 ⟨rfl, hEc59⟩; (try replace hEc59 := Ext.undrew hEc59); (try replace hE := hE.trans hEc59); (try replace kE4 := kE4.trans hEc59); (try replace hF := hF.ext hEc59); (try replace hM := hM.ext hEc59); (try replace hT := hT.ext hEc59); (try replace hL := hL.ext hEc59); (try replace hB60 := hB60.ext hEc59); (try replace hB3 := hB3.ext hEc59); (try replace hB4 := hB4.ext hEc59); (try replace hb3_0 := Ext.cell_some hEc59 hb3_0); (try replace hb3_1 := Ext.cell_some hEc59 hb3_1); (try replace hb3_2 := Ext.cell_some hEc59 hb3_2); (try replace hb4_0 := Ext.cell_some hEc59 hb4_0))) | ((with_reducible refine q_box (d := some 3) ?_); intro W3 g3 hE3 hB3 hg3; simp [Act.eval, Act.put, Value.cells] at hB3; (try replace hE := hE.trans hE3); (try replace kE4 := kE4.trans hE3); (try replace hF := hF.ext hE3); (try replace hM := hM.ext hE3); (try replace hT := hT.ext hE3); (try replace hL := hL.ext hE3); (try replace hB60 := hB60.ext hE3); (try replace hB3 := hB3.ext hE3); (try replace hB4 := hB4.ext hE3); (try replace hb3_0 := Ext.cell_some hE3 hb3_0); (try replace hb3_1 := Ext.cell_some hE3 hb3_1); (try replace hb3_2 := Ext.cell_some hE3 hb3_2); (try replace hb4_0 := Ext.cell_some hE3 hb4_0); have hb3_0 := hB3.cell 0; have hb3_1 := hB3.cell 1; have hb3_2 := hB3.cell 2; simp at hb3_0 hb3_1 hb3_2; clear hE3) | ((with_reducible refine q_box (d := some 4) ?_); intro W4 g4 hE4 hB4 hg4; simp [Act.eval, Act.put, Value.cells] at hB4; (try replace hE := hE.trans hE4); (try replace kE4 := kE4.trans hE4); (try replace hF := hF.ext hE4); (try replace hM := hM.ext hE4); (try replace hT := hT.ext hE4); (try replace hL := hL.ext hE4); (try replace hB60 := hB60.ext hE4); (try replace hB3 := hB3.ext hE4); (try replace hB4 := hB4.ext hE4); (try replace hb3_0 := Ext.cell_some hE4 hb3_0); (try replace hb3_1 := Ext.cell_some hE4 hb3_1); (try replace hb3_2 := Ext.cell_some hE4 hb3_2); (try replace hb4_0 := Ext.cell_some hE4 hb4_0); have hb4_0 := hB4.cell 0; simp at hb4_0; clear hE4))
        have hp : Pred Wc59 69 #[.pointer (some ⟨g4, 0, none⟩)] (hasB (numbers t.length)) lo := by
          intro x _ W hWe
          exact (p69_any x _ ct t.length g4 W (Ext.cell_some hWe hb4_0) (by omega)).mono fun e W' h => ⟨h.1, h.2 ▸ Ext.refl _⟩
        have Hp := Lib.hid hp
        clear hp
        refine (prising_any 69 _ _ _ lo _ hL enters69 Hp.out).mono ?_
        rintro e Wc ⟨rfl, hEc⟩
        replace hE := hE.trans hEc; replace kE4 := kE4.trans hEc; replace hF := hF.ext hEc; replace hM := hM.ext hEc; replace hT := hT.ext hEc; replace hL := hL.ext hEc; replace hB60 := hB60.ext hEc; replace hb3_0 := Ext.cell_some hEc hb3_0; replace hb3_1 := Ext.cell_some hEc hb3_1; replace hb3_2 := Ext.cell_some hEc hb3_2; replace hb4_0 := Ext.cell_some hEc hb4_0
        go_wp2_with (first | ((with_reducible refine q_store1 (t := 3) (e := 39) (g := g6) (off := 0) (v := .int .i64 (t.length : Int)) ?_ ?_ hB60 size3 ?_ ?_ ?_ ?_); rfl; rfl; rfl; simp; rfl; intro W9 hB9 hgr9; simp at hB9; have kE9 := below_grown kE4 hgr9 hg6 kE4.size; have b40 := Ext.cell_some kE9 k40))
        clear kE4 hE hF hM hT hL hB60 hb3_0 hb3_1 hb3_2 hb4_0 hB3 hB4
        go_loopw [35] (fun i wr => Ext W4 wr ∧ ∃ k : Nat, ∃ kv : Value, k ≤ t.length ∧ i = .int .i64 k ∧ Blk wr g6 39 #[.int .i64 (t.length : Int), kv] ∧ OwnL W4.heap.size wr kv (keptTo c t lo k)) (fun i _ => t.length - (intOf i).toNat)
        case atStart => exact ⟨kE9, 0, _, by omega, rfl, hB9, OwnL.nil _ _⟩
        case round =>
          obtain ⟨hEr, k, kv, hk, rfl, hB9r, hO⟩ := hrel
          have kF := kF0.ext hEr; have kM := kM0.ext hEr; have kT := kT0.ext hEr; have kL := kL0.ext hEr
          have d0 := Ext.cell_some hEr k30; have d1 := Ext.cell_some hEr k31; have d2 := Ext.cell_some hEr k32; have d4 := Ext.cell_some hEr k40
          obtain ⟨Ak, ck, rfl, _, _, _⟩ := hO.lines
          have e91 := hB9r.cell 1
          simp at e91
          have Hkl := Lib.hid (keptTo_len c t lo k)
          clear hB9 kE9 b40
          by_cases hlt : k < t.length
          · obtain ⟨ad, rfl, hct⟩ := t4 (by omega)
            have eT := ((hct.ext kE0).ext hEr).i hlt
            have z2 : IntKind.i64.wrap ((k : Int) + 1) = (k : Int) + 1 := IntWalk.i64_in _ (by omega)
            have htk2 := Htk.out.take (k + 1)
            have Htk2 := Lib.hid htk2
            have Hx := Lib.hid (show ∀ x ∈ t.take (k + 1), 0 ≤ x ∧ x < 9 from fun x hx => by have := htk2.2 x hx; have := Ho.out.thing9; omega)
            have Hlt2 := Lib.hid (show (t.take (k + 1)).length ≤ 1000 by rw [List.length_take]; omega)
            have HhA := Lib.hid (any_has lo ((k : Int) + 1))
            clear t4 hct htk2
            cases hb : hasB lo ((k : Int) + 1) with
            | true =>
              have Hs := Lib.hid (keptTo_yes (c := c) (t := t) hb)
              rw [hb] at HhA
              have hha := HhA.out
              go_wp2_with (go_at_call 70; refine (ContainsI_any _ _ _ _ kL).mono ?_; rintro e w' ⟨rfl, rfl⟩)
              go_roundw
              case rel => exact ⟨hEr, k + 1, _, by omega, by go_num, hB9r, by rw [Hs.out]; exact hO⟩
              case measure => simp [intOf]; omega
            | false =>
              have Hs := Lib.hid (keptTo_no (c := c) hlt hb)
              rw [hb] at HhA
              have hha := HhA.out
              have hcut := kT.cut (n := k + 1) (by omega)
              have z3 : (0 : Int) ≤ (k : Int) + 1 := by omega
              have z4 : ((k : Int) + 1).toNat = k + 1 := by omega
              have z5 : (k : Int) + 1 ≤ (t.length : Int) := by omega
              have z6 : (k : Int) + 1 ≤ (ct : Int) := by omega
              go_wp2_with (go_at_call 70; refine (ContainsI_any _ _ _ _ kL).mono ?_; rintro e w' ⟨rfl, rfl⟩)
              have Hha := Lib.hid hha
              clear hha
              go_region_held3 (fun w' => w'.cell? ((⟨g4, 0, none⟩)) = some (.slice (some ad) t.length ct) ∧ w'.cell? ((⟨g3, 0, none⟩)) = some (fv) ∧ w'.cell? ((⟨g3, 1, none⟩)) = some (mv) ∧ w'.cell? ((⟨g3, 2, none⟩)) = some (.int .i64 c.all)) (simp [*]) ((first | (go_at_call 60; ((with_reducible refine (pcount_any _ (t.take (k + 1)) _ (by first | exact hcut | exact (hcut).d) Hx.out Hlt2.out).mono ?_); rintro e Wc2 ⟨rfl, hEc2⟩; (try replace hEc2 := Ext.undrew hEc2); (try replace hE := hE.trans hEc2); (try replace kE4 := kE4.trans hEc2); (try replace hEr := hEr.trans hEc2); (try replace hB3 := hB3.ext hEc2); (try replace hB4 := hB4.ext hEc2); (try replace kF := kF.ext hEc2); (try replace kM := kM.ext hEc2); (try replace kT := kT.ext hEc2); (try replace kL := kL.ext hEc2); (try replace hcut := hcut.ext hEc2); (try replace hO := hO.ext hEc2); (try replace hB9r := hB9r.ext hEc2); (try replace hb3_0 := Ext.cell_some hEc2 hb3_0); (try replace hb3_1 := Ext.cell_some hEc2 hb3_1); (try replace hb3_2 := Ext.cell_some hEc2 hb3_2); (try replace hb4_0 := Ext.cell_some hEc2 hb4_0); (try replace d0 := Ext.cell_some hEc2 d0); (try replace d1 := Ext.cell_some hEc2 d1); (try replace d2 := Ext.cell_some hEc2 d2); (try replace d4 := Ext.cell_some hEc2 d4); (try replace e91 := Ext.cell_some hEc2 e91))) | (go_at_call 61; ((with_reducible refine (ppasses_any _ c (t.take (k + 1)) _ (by first | exact CodeV.of kF kM HW.out | exact (CodeV.of kF kM HW.out).d) Ho.out Htk2.out).mono ?_); rintro e Wc3 ⟨rfl, hEc3⟩; (try replace hEc3 := Ext.undrew hEc3); (try replace hE := hE.trans hEc3); (try replace kE4 := kE4.trans hEc3); (try replace hEr := hEr.trans hEc3); (try replace hB3 := hB3.ext hEc3); (try replace hB4 := hB4.ext hEc3); (try replace kF := kF.ext hEc3); (try replace kM := kM.ext hEc3); (try replace kT := kT.ext hEc3); (try replace kL := kL.ext hEc3); (try replace hcut := hcut.ext hEc3); (try replace hO := hO.ext hEc3); (try replace hB9r := hB9r.ext hEc3); (try replace hb3_0 := Ext.cell_some hEc3 hb3_0); (try replace hb3_1 := Ext.cell_some hEc3 hb3_1); (try replace hb3_2 := Ext.cell_some hEc3 hb3_2); (try replace hb4_0 := Ext.cell_some hEc3 hb4_0); (try replace d0 := Ext.cell_some hEc3 d0); (try replace d1 := Ext.cell_some hEc3 d1); (try replace d2 := Ext.cell_some hEc3 d2); (try replace d4 := Ext.cell_some hEc3 d4); (try replace e91 := Ext.cell_some hEc3 e91)))))
              go_wp2_with (first | ((with_reducible refine q_bsL (d := some 62) (p := (k : Int) + 1) (q := t[k]) (r := c.total (t.take (k + 1))) ?_ ?_); rfl; intro W67 g67 hE67 hB67 hg67; replace hEr := hEr.trans hE67; replace hO := hO.ext hE67; replace hB9r := hB9r.ext hE67) | ((with_reducible refine q_appL (d := some 63) (y := ⟨(k : Int) + 1, t[k], c.total (t.take (k + 1))⟩) ?_ hO ?_ hB67 ?_ ?_ ?_); rfl; rfl; (have := Hkl.out; omega); (have := hEr.size; omega); intro v68 W68 hO68 hm68 hgr68; replace hEr := hm68 _ hEr; replace hB9r := hB9r.grown hgr68 (Blk.notown hB9r hO (.inl (by decide))); obtain ⟨A68, c68, e68, _, _, _⟩ := hO68.lines; have E68 := Lib.hid e68; clear e68) | ((with_reducible refine q_store1 (t := 37) (e := 39) (g := g6) (off := 1) (v := v68) ?_ ?_ hB9r size37 ?_ ?_ ?_ ?_); rfl; rfl; (rw [E68.out]; rfl); simp; (rw [E68.out]; rfl); intro Ws hBs hgrs; simp at hBs; have hEv := below_grown hEr hgrs hg6 hEr.size; have hOv := own_grown hO68 hgrs (own_ne hO68 hB9r (.inl (by decide)))))
              go_roundw
              case rel => exact ⟨hEv, k + 1, _, by omega, by go_num, by simpa using hBs, by rw [Hs.out]; exact hOv⟩
              case measure => simp [intOf]; omega
          · obtain rfl : k = t.length := by omega
            clear t4
            have hEw := kE0.trans hEr
            go_wp2_with (first | ((with_reducible refine q_load (d := some 66) (p := ⟨g6, 0, none⟩) (v := .agg #[.int .i64 (t.length : Int), .slice Ak (keptTo c t lo t.length).length ck]) ?_ ?_ ?_); rfl; exact ld_sheet hB9r) | ((with_reducible refine q_store (t := 39) (e := 39) (g := g6) (off := 0) (n := 2) (v := .agg #[.int .i64 (t.length : Int), .slice Ak (keptTo c t lo t.length).length ck]) ?_ ?_ hB9r size39 ?_ ?_ ?_ ?_); rfl; rfl; rfl; (simp [Value.cells]); (simp [Value.cells, Value.oneCell']); intro W60 hB60 hgr60; simp [putAt, Value.cells] at hB60; replace hEw := below_grown hEw hgr60 hg60 hEw.size; have hO60 := own_grown hO hgr60 (own_ne hO hB9r (.inl (by decide)))))
            refine ret_c2 rfl rfl rfl (ld_sheet hB60) ?_
            exact ⟨_, rfl, SheetV.of (s := ⟨t.length, keptTo c t lo t.length⟩) (OwnL.lines hO60), hEw⟩
      · have q3 : (3 : Int) < lo.length := by omega
        have Hr := Lib.hid (keep_e (c := c) (t := t) (lo := lo) (by rw [keepErr_3 ha hr h3]; decide))
        rw [keepErr_3 ha hr h3] at Hr
        clear ha hr ho htk t4
        rw [Hr.out]
        go_enter Tryz.func25, Tryz.ntmps25
        go_wp2_with (first | (((with_reducible refine q_alloc (d := some 6) ti39 ?_); intro W6 g6 hE6 hB6 hg6; have kF0 := hF; have kM0 := hM; have kT0 := hT; have kL0 := hL; have k30 := hb3_0; have k31 := hb3_1; have k32 := hb3_2; have k40 := hb4_0; have kE0 := hE; have kE4 := hE6; have hg60 : w.heap.size ≤ g6 := Nat.le_trans hE.size hg6; have hB60 : Blk W6 g6 39 #[.int .i64 0, .slice none 0 0] := hB6; replace hE := hE.trans hE6; replace hF := hF.ext hE6; replace hM := hM.ext hE6; replace hT := hT.ext hE6; replace hL := hL.ext hE6; replace hb3_0 := Ext.cell_some hE6 hb3_0; replace hb3_1 := Ext.cell_some hE6 hb3_1; replace hb3_2 := Ext.cell_some hE6 hb3_2; replace hb4_0 := Ext.cell_some hE6 hb4_0)) | (go_at_call 59; ((with_reducible refine (pwhole_any _ _ c t _ (by exact CodeV.of hF hM HW.out) (by exact hT)).mono ?_); rintro e Wc59 ⟨rfl, hEc59⟩; (try replace hEc59 := Ext.undrew hEc59); (try replace hE := hE.trans hEc59); (try replace kE4 := kE4.trans hEc59); (try replace hF := hF.ext hEc59); (try replace hM := hM.ext hEc59); (try replace hT := hT.ext hEc59); (try replace hL := hL.ext hEc59); (try replace hB60 := hB60.ext hEc59); (try replace hB3 := hB3.ext hEc59); (try replace hB4 := hB4.ext hEc59); (try replace hb3_0 := Ext.cell_some hEc59 hb3_0); (try replace hb3_1 := Ext.cell_some hEc59 hb3_1); (try replace hb3_2 := Ext.cell_some hEc59 hb3_2); (try replace hb4_0 := Ext.cell_some hEc59 hb4_0))) | ((with_reducible refine q_box (d := some 3) ?_); intro W3 g3 hE3 hB3 hg3; simp [Act.eval, Act.put, Value.cells] at hB3; (try replace hE := hE.trans hE3); (try replace kE4 := kE4.trans hE3); (try replace hF := hF.ext hE3); (try replace hM := hM.ext hE3); (try replace hT := hT.ext hE3); (try replace hL := hL.ext hE3); (try replace hB60 := hB60.ext hE3); (try replace hB3 := hB3.ext hE3); (try replace hB4 := hB4.ext hE3); (try replace hb3_0 := Ext.cell_some hE3 hb3_0); (try replace hb3_1 := Ext.cell_some hE3 hb3_1); (try replace hb3_2 := Ext.cell_some hE3 hb3_2); (try replace hb4_0 := Ext.cell_some hE3 hb4_0); have hb3_0 := hB3.cell 0; have hb3_1 := hB3.cell 1; have hb3_2 := hB3.cell 2; simp at hb3_0 hb3_1 hb3_2; clear hE3) | ((with_reducible refine q_box (d := some 4) ?_); intro W4 g4 hE4 hB4 hg4; simp [Act.eval, Act.put, Value.cells] at hB4; (try replace hE := hE.trans hE4); (try replace kE4 := kE4.trans hE4); (try replace hF := hF.ext hE4); (try replace hM := hM.ext hE4); (try replace hT := hT.ext hE4); (try replace hL := hL.ext hE4); (try replace hB60 := hB60.ext hE4); (try replace hB3 := hB3.ext hE4); (try replace hB4 := hB4.ext hE4); (try replace hb3_0 := Ext.cell_some hE4 hb3_0); (try replace hb3_1 := Ext.cell_some hE4 hb3_1); (try replace hb3_2 := Ext.cell_some hE4 hb3_2); (try replace hb4_0 := Ext.cell_some hE4 hb4_0); have hb4_0 := hB4.cell 0; simp at hb4_0; clear hE4))
        have hp : Pred Wc59 69 #[.pointer (some ⟨g4, 0, none⟩)] (hasB (numbers t.length)) lo := by
          intro x _ W hWe
          exact (p69_any x _ ct t.length g4 W (Ext.cell_some hWe hb4_0) (by omega)).mono fun e W' h => ⟨h.1, h.2 ▸ Ext.refl _⟩
        have Hp := Lib.hid hp
        clear hp
        refine (prising_any 69 _ _ _ lo _ hL enters69 Hp.out).mono ?_
        rintro e Wc ⟨rfl, hEc⟩
        replace hE := hE.trans hEc; replace kE4 := kE4.trans hEc; replace hF := hF.ext hEc; replace hM := hM.ext hEc; replace hT := hT.ext hEc; replace hL := hL.ext hEc; replace hB60 := hB60.ext hEc; replace hb3_0 := Ext.cell_some hEc hb3_0; replace hb3_1 := Ext.cell_some hEc hb3_1; replace hb3_2 := Ext.cell_some hEc hb3_2; replace hb4_0 := Ext.cell_some hEc hb4_0
        go_wp2_with (first | ((with_reducible refine q_load (d := some 29) (p := ⟨g6, 0, none⟩) (v := .agg #[.int .i64 0, .slice none 0 0]) ?_ ?_ ?_); rfl; exact ld_sheet hB60) | ((with_reducible refine q_store (t := 39) (e := 39) (g := g6) (off := 0) (n := 2) (v := .agg #[.int .i64 0, .slice none 0 0]) ?_ ?_ hB60 size39 ?_ ?_ ?_ ?_); rfl; rfl; rfl; (simp [Value.cells]); (simp [Value.cells, Value.oneCell']); intro W61 hB61 hgr61; simp [putAt, Value.cells] at hB61; replace hE := below_grown hE hgr61 hg60 hE.size))
        refine ret_c2 rfl rfl rfl (ld_sheet hB61) ?_
        exact ⟨_, rfl, SheetV.of (s := ⟨0, []⟩) (Sl.none_ _ 3), hE⟩
    · have q2 : (rising (hasB (numbers t.length)) lo != 0) = true := by simp [hr]
      have Hr := Lib.hid (keep_e (c := c) (t := t) (lo := lo) (by rw [keepErr_r ha hr]; exact hr))
      rw [keepErr_r ha hr] at Hr
      clear ha hr ho htk t4
      rw [Hr.out]
      go_enter Tryz.func25, Tryz.ntmps25
      go_wp2_with (first | (((with_reducible refine q_alloc (d := some 6) ti39 ?_); intro W6 g6 hE6 hB6 hg6; have kF0 := hF; have kM0 := hM; have kT0 := hT; have kL0 := hL; have k30 := hb3_0; have k31 := hb3_1; have k32 := hb3_2; have k40 := hb4_0; have kE0 := hE; have kE4 := hE6; have hg60 : w.heap.size ≤ g6 := Nat.le_trans hE.size hg6; have hB60 : Blk W6 g6 39 #[.int .i64 0, .slice none 0 0] := hB6; replace hE := hE.trans hE6; replace hF := hF.ext hE6; replace hM := hM.ext hE6; replace hT := hT.ext hE6; replace hL := hL.ext hE6; replace hb3_0 := Ext.cell_some hE6 hb3_0; replace hb3_1 := Ext.cell_some hE6 hb3_1; replace hb3_2 := Ext.cell_some hE6 hb3_2; replace hb4_0 := Ext.cell_some hE6 hb4_0)) | (go_at_call 59; ((with_reducible refine (pwhole_any _ _ c t _ (by exact CodeV.of hF hM HW.out) (by exact hT)).mono ?_); rintro e Wc59 ⟨rfl, hEc59⟩; (try replace hEc59 := Ext.undrew hEc59); (try replace hE := hE.trans hEc59); (try replace kE4 := kE4.trans hEc59); (try replace hF := hF.ext hEc59); (try replace hM := hM.ext hEc59); (try replace hT := hT.ext hEc59); (try replace hL := hL.ext hEc59); (try replace hB60 := hB60.ext hEc59); (try replace hB3 := hB3.ext hEc59); (try replace hB4 := hB4.ext hEc59); (try replace hb3_0 := Ext.cell_some hEc59 hb3_0); (try replace hb3_1 := Ext.cell_some hEc59 hb3_1); (try replace hb3_2 := Ext.cell_some hEc59 hb3_2); (try replace hb4_0 := Ext.cell_some hEc59 hb4_0))) | ((with_reducible refine q_box (d := some 3) ?_); intro W3 g3 hE3 hB3 hg3; simp [Act.eval, Act.put, Value.cells] at hB3; (try replace hE := hE.trans hE3); (try replace kE4 := kE4.trans hE3); (try replace hF := hF.ext hE3); (try replace hM := hM.ext hE3); (try replace hT := hT.ext hE3); (try replace hL := hL.ext hE3); (try replace hB60 := hB60.ext hE3); (try replace hB3 := hB3.ext hE3); (try replace hB4 := hB4.ext hE3); (try replace hb3_0 := Ext.cell_some hE3 hb3_0); (try replace hb3_1 := Ext.cell_some hE3 hb3_1); (try replace hb3_2 := Ext.cell_some hE3 hb3_2); (try replace hb4_0 := Ext.cell_some hE3 hb4_0); have hb3_0 := hB3.cell 0; have hb3_1 := hB3.cell 1; have hb3_2 := hB3.cell 2; simp at hb3_0 hb3_1 hb3_2; clear hE3) | ((with_reducible refine q_box (d := some 4) ?_); intro W4 g4 hE4 hB4 hg4; simp [Act.eval, Act.put, Value.cells] at hB4; (try replace hE := hE.trans hE4); (try replace kE4 := kE4.trans hE4); (try replace hF := hF.ext hE4); (try replace hM := hM.ext hE4); (try replace hT := hT.ext hE4); (try replace hL := hL.ext hE4); (try replace hB60 := hB60.ext hE4); (try replace hB3 := hB3.ext hE4); (try replace hB4 := hB4.ext hE4); (try replace hb3_0 := Ext.cell_some hE4 hb3_0); (try replace hb3_1 := Ext.cell_some hE4 hb3_1); (try replace hb3_2 := Ext.cell_some hE4 hb3_2); (try replace hb4_0 := Ext.cell_some hE4 hb4_0); have hb4_0 := hB4.cell 0; simp at hb4_0; clear hE4))
      have hp : Pred Wc59 69 #[.pointer (some ⟨g4, 0, none⟩)] (hasB (numbers t.length)) lo := by
        intro x _ W hWe
        exact (p69_any x _ ct t.length g4 W (Ext.cell_some hWe hb4_0) (by omega)).mono fun e W' h => ⟨h.1, h.2 ▸ Ext.refl _⟩
      have Hp := Lib.hid hp
      clear hp
      refine (prising_any 69 _ _ _ lo _ hL enters69 Hp.out).mono ?_
      rintro e Wc ⟨rfl, hEc⟩
      replace hE := hE.trans hEc; replace kE4 := kE4.trans hEc; replace hF := hF.ext hEc; replace hM := hM.ext hEc; replace hT := hT.ext hEc; replace hL := hL.ext hEc; replace hB60 := hB60.ext hEc; replace hb3_0 := Ext.cell_some hEc hb3_0; replace hb3_1 := Ext.cell_some hEc hb3_1; replace hb3_2 := Ext.cell_some hEc hb3_2; replace hb4_0 := Ext.cell_some hEc hb4_0
      go_wp2_with (first | ((with_reducible refine q_load (d := some 24) (p := ⟨g6, 0, none⟩) (v := .agg #[.int .i64 0, .slice none 0 0]) ?_ ?_ ?_); rfl; exact ld_sheet hB60) | ((with_reducible refine q_store (t := 39) (e := 39) (g := g6) (off := 0) (n := 2) (v := .agg #[.int .i64 0, .slice none 0 0]) ?_ ?_ hB60 size39 ?_ ?_ ?_ ?_); rfl; rfl; rfl; (simp [Value.cells]); (simp [Value.cells, Value.oneCell']); intro W61 hB61 hgr61; simp [putAt, Value.cells] at hB61; replace hE := below_grown hE hgr61 hg60 hE.size))
      refine ret_c2 rfl rfl rfl (ld_sheet hB61) ?_
      exact ⟨_, rfl, SheetV.of (s := ⟨0, []⟩) (Sl.none_ _ 3), hE⟩
  · have q2 : (c.whole t != 0) = true := by simp [ha]
    have Hr := Lib.hid (keep_e (c := c) (t := t) (lo := lo) (by rw [keepErr_w ha]; exact ha))
    rw [keepErr_w ha] at Hr
    clear ha t4
    rw [Hr.out]
    go_enter Tryz.func25, Tryz.ntmps25
    go_wp2_with (first | (((with_reducible refine q_alloc (d := some 6) ti39 ?_); intro W6 g6 hE6 hB6 hg6; have kF0 := hF; have kM0 := hM; have kT0 := hT; have kL0 := hL; have k30 := hb3_0; have k31 := hb3_1; have k32 := hb3_2; have k40 := hb4_0; have kE0 := hE; have kE4 := hE6; have hg60 : w.heap.size ≤ g6 := Nat.le_trans hE.size hg6; have hB60 : Blk W6 g6 39 #[.int .i64 0, .slice none 0 0] := hB6; replace hE := hE.trans hE6; replace hF := hF.ext hE6; replace hM := hM.ext hE6; replace hT := hT.ext hE6; replace hL := hL.ext hE6; replace hb3_0 := Ext.cell_some hE6 hb3_0; replace hb3_1 := Ext.cell_some hE6 hb3_1; replace hb3_2 := Ext.cell_some hE6 hb3_2; replace hb4_0 := Ext.cell_some hE6 hb4_0)) | (go_at_call 59; ((with_reducible refine (pwhole_any _ _ c t _ (by exact CodeV.of hF hM HW.out) (by exact hT)).mono ?_); rintro e Wc59 ⟨rfl, hEc59⟩; (try replace hEc59 := Ext.undrew hEc59); (try replace hE := hE.trans hEc59); (try replace kE4 := kE4.trans hEc59); (try replace hF := hF.ext hEc59); (try replace hM := hM.ext hEc59); (try replace hT := hT.ext hEc59); (try replace hL := hL.ext hEc59); (try replace hB60 := hB60.ext hEc59); (try replace hB3 := hB3.ext hEc59); (try replace hB4 := hB4.ext hEc59); (try replace hb3_0 := Ext.cell_some hEc59 hb3_0); (try replace hb3_1 := Ext.cell_some hEc59 hb3_1); (try replace hb3_2 := Ext.cell_some hEc59 hb3_2); (try replace hb4_0 := Ext.cell_some hEc59 hb4_0))) | (((with_reducible refine q_load (d := some 17) (p := ⟨g6, 0, none⟩) (v := .agg #[.int .i64 0, .slice none 0 0]) ?_ ?_ ?_); rfl; exact ld_sheet hB60)) | (((with_reducible refine q_store (t := 39) (e := 39) (g := g6) (off := 0) (n := 2) (v := .agg #[.int .i64 0, .slice none 0 0]) ?_ ?_ hB60 size39 ?_ ?_ ?_ ?_); rfl; rfl; rfl; (simp [Value.cells]); (simp [Value.cells, Value.oneCell']); intro W61 hB61 hgr61; simp [putAt, Value.cells] at hB61; replace hE := below_grown hE hgr61 hg60 hE.size)) | ((with_reducible refine q_box (d := some 3) ?_); intro W3 g3 hE3 hB3 hg3; simp [Act.eval, Act.put, Value.cells] at hB3; (try replace hE := hE.trans hE3); (try replace kE4 := kE4.trans hE3); (try replace hF := hF.ext hE3); (try replace hM := hM.ext hE3); (try replace hT := hT.ext hE3); (try replace hL := hL.ext hE3); (try replace hB60 := hB60.ext hE3); (try replace hB3 := hB3.ext hE3); (try replace hB4 := hB4.ext hE3); (try replace hb3_0 := Ext.cell_some hE3 hb3_0); (try replace hb3_1 := Ext.cell_some hE3 hb3_1); (try replace hb3_2 := Ext.cell_some hE3 hb3_2); (try replace hb4_0 := Ext.cell_some hE3 hb4_0); have hb3_0 := hB3.cell 0; have hb3_1 := hB3.cell 1; have hb3_2 := hB3.cell 2; simp at hb3_0 hb3_1 hb3_2; clear hE3) | ((with_reducible refine q_box (d := some 4) ?_); intro W4 g4 hE4 hB4 hg4; simp [Act.eval, Act.put, Value.cells] at hB4; (try replace hE := hE.trans hE4); (try replace kE4 := kE4.trans hE4); (try replace hF := hF.ext hE4); (try replace hM := hM.ext hE4); (try replace hT := hT.ext hE4); (try replace hL := hL.ext hE4); (try replace hB60 := hB60.ext hE4); (try replace hB3 := hB3.ext hE4); (try replace hB4 := hB4.ext hE4); (try replace hb3_0 := Ext.cell_some hE4 hb3_0); (try replace hb3_1 := Ext.cell_some hE4 hb3_1); (try replace hb3_2 := Ext.cell_some hE4 hb3_2); (try replace hb4_0 := Ext.cell_some hE4 hb4_0); have hb4_0 := hB4.cell 0; simp at hb4_0; clear hE4))
    refine ret_c2 rfl rfl rfl (ld_sheet hB61) ?_
    exact ⟨_, rfl, SheetV.of (s := ⟨0, []⟩) (Sl.none_ _ 3), hE⟩
end Go.Bp
end
section
/- Maps whose keys are ints or strings, as functions; any elements. No program stands in it. -/
set_option maxRecDepth 100000
namespace Go.Bp
open Go.RowKit
/-- A kind of keys: how a key is written, and that the model tells keys apart. -/
structure KeyKind (κ : Type) [DecidableEq κ] (kd : TypeDesc) (kv : κ → Value) : Prop where
  same : ∀ a b, Instr.sameNow kd (kv a) (kv b) = some (decide (a = b))
  check : ∀ (P : Program) (w : World) (t : TypeId) (n : Nat) (b : Bool) (a : κ), P.underlying t = some kd → (Instr.checkKey b (n + 1) t (kv a)).run P w = .ok () w
  bits : ∀ a, Instr.sameBits 10000 (kv a) (kv a) = true
theorem intKeys : KeyKind Int (.int .i64) (fun n => .int .i64 n) where
  same a b := by
    simp only [Instr.sameNow, if_true, Option.some.injEq]
    by_cases h : a = b <;> simp [h]
  check P w t n b a ht := by simp [Instr.checkKey, run_underlying ht]
  bits a := by simp [Instr.sameBits]
theorem strKeys : KeyKind ByteArray .string (fun s => .string s) where
  same a b := by
    simp only [Instr.sameNow, Option.some.injEq]
    rw [ba_beq]
  check P w t n b a ht := by simp [Instr.checkKey, run_underlying ht]
  bits a := by simp [Instr.sameBits]
section
variable {κ : Type} [DecidableEq κ] {kd : TypeDesc} {kv : κ → Value}
/-- The entries are those of m; ka are their keys, in order. -/
structure Ents (kv : κ → Value) (es : List MapEntry) (clock : Nat) (m : κ → Option Value) : Prop where
  keys : ∀ e ∈ es, ∃ a, e.key = kv a
  born : ∀ e ∈ es, e.born < clock
  rises : es.Pairwise fun x y => x.born < y.born
  look : ∀ a, m a = none ∧ (∀ e ∈ es, e.key ≠ kv a) ∨ ∃ i, ∃ h : i < es.length, es[i].key = kv a ∧ m a = some es[i].val ∧ ∀ j (hj : j < i), es[j].key ≠ kv a
theorem KeyKind.inj (K : KeyKind κ kd kv) {a b : κ} (h : kv a = kv b) : a = b := by
  have h1 := K.same a b
  have h2 := K.same a a
  rw [← h, h2] at h1
  simpa using h1
theorem findNow_none (K : KeyKind κ kd kv) (a : κ) : ∀ (es : List MapEntry) (i : Nat), (∀ e ∈ es, ∃ b, e.key = kv b) → (∀ e ∈ es, e.key ≠ kv a) → Instr.findNow kd (kv a) es i = some none
  | [], _, _, _ => rfl
  | e :: es, i, hk, hn => by
    obtain ⟨b, hb⟩ := hk e (by simp)
    have hne : a ≠ b := fun h => hn e (by simp) (by rw [hb, h])
    unfold Instr.findNow
    rw [hb, K.same]
    simp only [hne, decide_false]
    exact findNow_none K a es (i + 1) (fun e he => hk e (by simp [he])) (fun e he => hn e (by simp [he]))
theorem findNow_some (K : KeyKind κ kd kv) (a : κ) : ∀ (es : List MapEntry) (i j : Nat) (h : j < es.length), (∀ e ∈ es, ∃ b, e.key = kv b) → es[j].key = kv a → (∀ q (hq : q < j), es[q].key ≠ kv a) → Instr.findNow kd (kv a) es i = some (some (i + j, es[j].val))
  | [], _, _, h, _, _, _ => by simp at h
  | e :: es, i, 0, h, hk, he, _ => by
    unfold Instr.findNow
    simp only [List.getElem_cons_zero] at he ⊢
    rw [he, K.same]
    simp
  | e :: es, i, j + 1, h, hk, he, hn => by
    obtain ⟨b, hb⟩ := hk e (by simp)
    have hne : a ≠ b := fun h => hn 0 (by omega) (by simp [hb, h])
    unfold Instr.findNow
    rw [hb, K.same]
    simp only [hne, decide_false]
    have := findNow_some K a es (i + 1) j (by simpa using h) (fun e he => hk e (by simp [he])) (by simpa using he) (fun q hq => by have := hn (q + 1) (by omega); simpa using this)
    rw [this]
    simp [Nat.add_assoc, Nat.add_comm 1 j]
/-- Block g is a map that reads as m. -/
def MapM (kv : κ → Value) (w : World) (g : Nat) (m : κ → Option Value) : Prop := ∃ es clock, w.heap[g]? = some (.map es clock) ∧ Ents kv es.toList clock m
end
section
variable {κ : Type} {kv : κ → Value}
theorem MapM.ext {w w' : World} {g : Nat} {m : κ → Option Value} (h : MapM kv w g m) (e : Ext w w') : MapM kv w' g m := by
  obtain ⟨es, c, h1, h2⟩ := h; exact ⟨es, c, e.heap_some h1, h2⟩
theorem MapM.lt {w : World} {g : Nat} {m : κ → Option Value} (h : MapM kv w g m) : g < w.heap.size := by
  obtain ⟨es, c, h1, _⟩ := h; exact (Array.getElem?_eq_some_iff.1 h1).1
theorem MapM.grown {w w' : World} {g : Nat} {m : κ → Option Value} {row : Option Nat} (h : MapM kv w g m) (hg : w.grownBy w' row) (hne : some g ≠ row) : MapM kv w' g m := by
  have hlt := h.lt
  obtain ⟨es, c, h1, h2⟩ := h; exact ⟨es, c, (hg.block g hlt hne).trans h1, h2⟩
theorem MapM.notblk {w : World} {g b : Nat} {m : κ → Option Value} {t : TypeId} {cs : Array Value} (h : MapM kv w g m) (hb : Blk w b t cs) : g ≠ b := by
  rintro rfl
  obtain ⟨es, c, h1, _⟩ := h
  unfold Blk at hb
  rw [hb] at h1; cases h1
theorem MapM.made (w : World) : MapM kv (w.alloc (.map #[] 0)) w.heap.size (fun _ => none) :=
  ⟨#[], 0, heap_alloc_new w _, ⟨by simp, by simp, by simp, fun a => .inl ⟨rfl, by simp⟩⟩⟩
end
section
variable {κ : Type} [DecidableEq κ] {kd : TypeDesc} {kv : κ → Value}
variable {P : Program} {w : World} {t k e : TypeId} {g : Nat} {m : κ → Option Value}
theorem run_look (K : KeyKind κ kd kv) (ht : P.underlying t = some (.map k e)) (hk : P.underlying k = some kd) (h : MapM kv w g m) (a : κ) {z : Value} (hz : (zeroValue e).run P w = .ok z w) :
    (Instr.lookup t (.map (some g)) (kv a) true).run P w = .ok (.tuple #[(m a).getD z, .bool (m a).isSome]) w := by
  obtain ⟨es, c, h1, hE⟩ := h
  have hck := K.check P w k 9999 es.isEmpty a hk
  unfold Instr.lookup
  simp only [Sem.run_bind, run_underlying ht, Result.andThen_ok, MapKept.run_getObj_map h1, Sem.run_pure, hck]
  unfold Instr.findKey
  simp only [Sem.run_bind, run_underlying hk, Result.andThen_ok]
  rcases hE.look a with ⟨h2, h3⟩ | ⟨i, hi, h2, h3, h4⟩
  · rw [findNow_none K a es.toList 0 hE.keys h3, h2]
    simp [hz]
  · rw [findNow_some K a es.toList 0 i hi hE.keys h2 h4, h3]
    simp
/-- m with one key more, or another element there. -/
def upd (m : κ → Option Value) (a : κ) (v : Value) : κ → Option Value := fun b => if b = a then some v else m b
/-- What mapEntry leaves: the entry of key a bears the stamp st. -/
def MapE (kv : κ → Value) (w : World) (g : Nat) (m : κ → Option Value) (a : κ) (st : Nat) : Prop :=
  ∃ es clock, w.heap[g]? = some (.map es clock) ∧ Ents kv es.toList clock m ∧ ∃ i, ∃ h : i < es.toList.length, es.toList[i].key = kv a ∧ es.toList[i].born = st ∧ ∀ j (hj : j < i), es.toList[j].key ≠ kv a
theorem run_entry_new (K : KeyKind κ kd kv) (ht : P.underlying t = some (.map k e)) (hk : P.underlying k = some kd) (h : MapM kv w g m) (a : κ) {z : Value} (hz : (zeroValue e).run P w = .ok z w) (hn : m a = none) :
    ∃ W st, (Instr.mapEntry t (.map (some g)) (kv a)).run P w = .ok (.tuple #[z, .int .i64 (st : Nat)]) W ∧ MapE kv W g (upd m a z) a st ∧ w.grownBy W (some g) := by
  obtain ⟨es, c, h1, hE⟩ := h
  have hlt := (Array.getElem?_eq_some_iff.1 h1).1
  have hck := K.check P w k 9999 false a hk
  have hno : ∀ e ∈ es.toList, e.key ≠ kv a := by
    rcases hE.look a with ⟨_, h3⟩ | ⟨i, hi, _, h3, _⟩
    · exact h3
    · rw [hn] at h3; cases h3
  refine ⟨w.putObj g (.map (es.push { key := kv a, val := z, born := c }) (c + 1)), c, ?_, ?_, grownBy_putObj' w g _⟩
  · unfold Instr.mapEntry
    simp only [Sem.run_bind, run_underlying ht, Result.andThen_ok, MapKept.run_getObj_map h1, hck]
    unfold Instr.findKey
    simp only [Sem.run_bind, run_underlying hk, Result.andThen_ok]
    rw [findNow_none K a es.toList 0 hE.keys hno]
    simp [Sem.run_bind, hz, MapKept.run_setObj_map _ h1, World.putObj, goInt]
  · refine ⟨es.push { key := kv a, val := z, born := c }, c + 1, World.putObj_heap_same hlt, ?_, es.size, by simp, by simp, by simp, fun j hj => ?_⟩
    · have hl : (es.push { key := kv a, val := z, born := c }).toList = es.toList ++ [{ key := kv a, val := z, born := c }] := by simp
      rw [hl]
      refine ⟨fun e he => ?_, fun e he => ?_, ?_, fun b => ?_⟩
      · rcases List.mem_append.1 he with he | he
        · exact hE.keys e he
        · simp at he; exact ⟨a, by rw [he]⟩
      · rcases List.mem_append.1 he with he | he
        · have := hE.born e he; omega
        · simp at he; rw [he]; simp
      · rw [List.pairwise_append]
        refine ⟨hE.rises, by simp, fun x hx y hy => ?_⟩
        simp at hy; rw [hy]; exact hE.born x hx
      · by_cases hb : b = a
        · subst hb
          right
          refine ⟨es.toList.length, by simp, by simp, by simp [upd], fun j hj => ?_⟩
          rw [List.getElem_append_left (by simpa using hj)]
          exact hno _ (List.getElem_mem _)
        · rcases hE.look b with ⟨h2, h3⟩ | ⟨i, hi, h2, h3, h4⟩
          · left
            refine ⟨by simp [upd, hb, h2], fun e he => ?_⟩
            rcases List.mem_append.1 he with he | he
            · exact h3 e he
            · simp at he; rw [he]; exact fun h => hb (K.inj h).symm
          · right
            refine ⟨i, by rw [List.length_append]; omega, by rw [List.getElem_append_left hi]; exact h2, by rw [List.getElem_append_left hi]; simp [upd, hb, h3], fun j hj => ?_⟩
            rw [List.getElem_append_left (by omega)]; exact h4 j hj
    · have hj' : j < es.toList.length := by simpa using hj
      have : (es.push { key := kv a, val := z, born := c }).toList[j]'(by simp; simp at hj'; omega) = es.toList[j] := by simp [show j < es.size by simpa using hj']
      rw [this]
      exact hno _ (List.getElem_mem _)
theorem run_entryStore (K : KeyKind κ kd kv) {a : κ} {st : Nat} (h : MapE kv w g m a st) (v : Value) :
    ∃ W, (Instr.entryStore t (.map (some g)) (.int .i64 (st : Nat)) v).run P w = .ok () W ∧ MapM kv W g (upd m a v) ∧ w.grownBy W (some g) := by
  obtain ⟨es, c, h1, hE, i, hi, hk, hb, hn⟩ := h
  have hlt := (Array.getElem?_eq_some_iff.1 h1).1
  have hi' : i < es.size := by simpa using hi
  have hf : es.findIdx? (fun e => (e.born : Int) == (st : Int)) = some i := by
    rw [Array.findIdx?_eq_some_iff_getElem]
    refine ⟨hi', by have : es[i].born = st := by simpa using hb
                    simp [this], fun j hj => ?_⟩
    have h2 := List.pairwise_iff_getElem.1 hE.rises j i (by simpa using (by omega : j < es.size)) hi hj
    have h3 : es.toList[j]'(by simpa using (by omega : j < es.size)) = es[j] := by simp
    rw [h3, hb] at h2
    have : ¬ ((es[j].born : Int) = (st : Int)) := by omega
    simp [this]
  refine ⟨w.putObj g (.map (es.modify i fun e => { e with val := v }) c), ?_, ?_, grownBy_putObj' w g _⟩
  · unfold Instr.entryStore
    simp [Sem.run_bind, MapKept.run_getObj_map h1, asInt, asIntOf, hf, MapKept.run_setObj_map _ h1, World.putObj, Result.andThen_ok]
  · refine ⟨_, c, World.putObj_heap_same hlt, ?_⟩
    have hl : ∀ j (hj : j < es.toList.length), (es.modify i fun e => { e with val := v }).toList[j]'(by simpa using hj) = if i = j then { es.toList[j] with val := v } else es.toList[j] := by
      intro j hj
      rw [Array.getElem_toList, Array.getElem_modify]
      split <;> simp [Array.getElem_toList]
    have hlen : (es.modify i fun e => { e with val := v }).toList.length = es.toList.length := by simp
    have hkey : ∀ j (hj : j < es.toList.length), ((es.modify i fun e => { e with val := v }).toList[j]'(by rw [hlen]; exact hj)).key = es.toList[j].key := by
      intro j hj; rw [hl j hj]; split <;> rfl
    have hborn : ∀ j (hj : j < es.toList.length), ((es.modify i fun e => { e with val := v }).toList[j]'(by rw [hlen]; exact hj)).born = es.toList[j].born := by
      intro j hj; rw [hl j hj]; split <;> rfl
    refine ⟨fun e he => ?_, fun e he => ?_, ?_, fun b => ?_⟩
    · obtain ⟨j, hj, rfl⟩ := List.mem_iff_getElem.1 he
      rw [hlen] at hj
      obtain ⟨x, hx⟩ := hE.keys _ (List.getElem_mem hj)
      exact ⟨x, by rw [hkey j hj]; exact hx⟩
    · obtain ⟨j, hj, rfl⟩ := List.mem_iff_getElem.1 he
      rw [hlen] at hj
      rw [hborn j hj]; exact hE.born _ (List.getElem_mem hj)
    · rw [List.pairwise_iff_getElem]
      intro p q hp hq hpq
      rw [hlen] at hp hq
      rw [hborn p hp, hborn q hq]
      exact List.pairwise_iff_getElem.1 hE.rises p q hp hq hpq
    · by_cases e1 : b = a
      · subst e1
        right
        refine ⟨i, by rw [hlen]; exact hi, by rw [hkey i hi]; exact hk, by rw [hl i hi]; simp [upd], fun j hj => ?_⟩
        rw [hkey j (by omega)]; exact hn j hj
      · rcases hE.look b with ⟨h2, h3⟩ | ⟨q, hq, h2, h3, h4⟩
        · left
          refine ⟨by simp [upd, e1, h2], fun e he => ?_⟩
          obtain ⟨j, hj, rfl⟩ := List.mem_iff_getElem.1 he
          rw [hlen] at hj
          rw [hkey j hj]; exact h3 _ (List.getElem_mem hj)
        · right
          have hqi : i ≠ q := by
            rintro rfl
            exact e1 (K.inj (h2.symm.trans hk))
          refine ⟨q, by rw [hlen]; exact hq, by rw [hkey q hq]; exact h2, by rw [hl q hq, if_neg hqi]; simp [upd, e1, h3], fun j hj => ?_⟩
          rw [hkey j (by omega)]; exact h4 j hj
end
end Go.Bp
end
section
set_option maxRecDepth 100000
set_option linter.unusedSimpArgs false
set_option linter.unusedVariables false
namespace Go.Bp
open Go.RowKit Go.Proofs
abbrev ikv : Int → Value := fun n => .int .i64 n
def lineV (x : Line) : Value := .agg #[.int .i64 x.no, .int .i64 x.what, .int .i64 x.sum]
def keptM (l : List Line) : Int → Option Value := fun n => (keptAt l n).map lineV
/-- The cells of a sheet that is looked at. -/
def tabCells (fv mv : Value) (c : Code) (lines : Int) (gm : Nat) (lv : Value) : Array Value := #[fv, mv, .int .i64 c.all, .int .i64 lines, .map (some gm), lv]
theorem zero99 (w : World) : (zeroValue 99).run Tryz.prog w = .ok (.agg #[.int .i64 0, .int .i64 0, .int .i64 0]) w := by kernel_rfl
section
variable {P : Program} {ops : Array Oper} {Q : Exit → Act → World → Prop} {a : Act} {w : World} {rest : List Oper}
variable {d : Option Tmp} {ty : TypeId} {pos : String} {after : Array Edge}
theorem q_run {o : Oper} (hg : o.guard = none) {v : Value} {W : World} (h : (execOp a.eval o).run P w = .ok (.value v) W) (k : wpList P ops Q rest (a.put o.dst v) W) : wpList P ops Q (o :: rest) a w :=
  wpList_plain hg fun K hK => by unfold Oper.wp; rw [h]; exact hK _ _ k
theorem q_skip {o : Oper} (hg : o.guard = none) {W : World} (h : (execOp a.eval o).run P w = .ok .skip W) (k : wpList P ops Q rest (a.put o.dst undef) W) : wpList P ops Q (o :: rest) a w :=
  wpList_plain hg fun K hK => by unfold Oper.wp; rw [h]; exact hK _ _ k
theorem q_makeMap {κ : Type} [DecidableEq κ] {kv : κ → Value} {t : TypeId} (k : ∀ W g, Ext w W → MapM kv W g (fun _ => none) → w.heap.size ≤ g → wpList P ops Q rest (a.put d (.map (some g))) W) :
    wpList P ops Q (⟨d, .makeMap t none, ty, pos, after, none⟩ :: rest) a w := by
  refine q_run rfl (v := .map (some w.heap.size)) (W := w.alloc (.map #[] 0)) ?_ (k _ _ (Ext.ofAlloc _ _) (MapM.made w) (Nat.le_refl _))
  simp [execOp, Instr.makeMap, newObj, Sem.run, Result.andThen]
theorem q_entryNew {κ : Type} [DecidableEq κ] {kd : TypeDesc} {kv : κ → Value} (K : KeyKind κ kd kv) {t kt e : TypeId} {x y : Operand} {g : Nat} {m : κ → Option Value} {b : κ} {z : Value}
    (ht : P.underlying t = some (.map kt e)) (hk : P.underlying kt = some kd) (hx : a.eval x = .map (some g)) (hy : a.eval y = kv b) (h : MapM kv w g m) (hz : (zeroValue e).run P w = .ok z w) (hn : m b = none)
    (k : ∀ W (st : Nat), MapE kv W g (upd m b z) b st → w.grownBy W (some g) → wpList P ops Q rest (a.put d (.tuple #[z, .int .i64 (st : Int)])) W) :
    wpList P ops Q (⟨d, .mapEntry t x y, ty, pos, after, none⟩ :: rest) a w := by
  obtain ⟨W, st, h1, h2, h3⟩ := run_entry_new K ht hk h b hz hn
  exact q_run rfl (by simp [execOp, hx, hy, h1, Result.andThen]) (k W st h2 h3)
theorem q_entryStore {κ : Type} [DecidableEq κ] {kd : TypeDesc} {kv : κ → Value} (K : KeyKind κ kd kv) {t : TypeId} {x y u : Operand} {g : Nat} {m : κ → Option Value} {b : κ} {st : Nat} {v : Value}
    (hx : a.eval x = .map (some g)) (hy : a.eval y = .int .i64 (st : Int)) (hu : a.eval u = v) (h : MapE kv w g m b st)
    (k : ∀ W, MapM kv W g (upd m b v) → w.grownBy W (some g) → wpList P ops Q rest (a.put d undef) W) :
    wpList P ops Q (⟨d, .entryStore t x y u, ty, pos, after, none⟩ :: rest) a w := by
  obtain ⟨W, h1, h2, h3⟩ := run_entryStore (P := P) (t := t) K h v
  exact q_skip rfl (by simp [execOp, hx, hy, hu, h1, Result.andThen]) (k W h2 h3)
theorem q_look {κ : Type} [DecidableEq κ] {kd : TypeDesc} {kv : κ → Value} (K : KeyKind κ kd kv) {t kt e : TypeId} {x y : Operand} {g : Nat} {m : κ → Option Value} {b : κ} {z : Value}
    (ht : P.underlying t = some (.map kt e)) (hk : P.underlying kt = some kd) (hx : a.eval x = .map (some g)) (hy : a.eval y = kv b) (h : MapM kv w g m) (hz : (zeroValue e).run P w = .ok z w)
    (k : wpList P ops Q rest (a.put d (.tuple #[(m b).getD z, .bool (m b).isSome])) w) :
    wpList P ops Q (⟨d, .lookup t x y true, ty, pos, after, none⟩ :: rest) a w :=
  q_run rfl (by simp [execOp, hx, hy, run_look K ht hk h b hz, Result.andThen]) k
end
theorem run_ld {P : Program} {S : World → Prop} {a : Act} {d : Option Tmp} {ty t : TypeId} {pos : String} {after : Array Edge} {x : Operand} {p : Addr} {v : Value} (hx : a.eval x = .pointer (some p)) (hl : ∀ W, S W → (loadVar t p).run P W = .ok v W) :
    ∀ W, S W → (execOp a.eval (⟨d, .load t x, ty, pos, after, none⟩ : Oper)).run P W = .ok (.value v) W := by
  intro W h; simp [execOp, Instr.loadAt, hx, Instr.sureAddr, hl W h, Result.andThen]
theorem ld_line3 {w : World} {g : Nat} {a b c : Int} (h0 : w.cell? ⟨g, 0, none⟩ = some (.int .i64 a)) (h1 : w.cell? ⟨g, 1, none⟩ = some (.int .i64 b)) (h2 : w.cell? ⟨g, 2, none⟩ = some (.int .i64 c)) : (loadVar 99 ⟨g, 0, none⟩).run Tryz.prog w = .ok (.agg #[.int .i64 a, .int .i64 b, .int .i64 c]) w := by
  obtain ⟨i, hi, hs⟩ := info99
  refine load_struct (cs := [.int .i64 a, .int .i64 b, .int .i64 c]) Tryz.underlying99 hi (by rw [hs]; rfl) ?_
  intro j u hj
  have hadd : (⟨g, 0, none⟩ : Addr).add j = ⟨g, j, none⟩ := by unfold Addr.add; split <;> simp_all
  rw [hadd]
  match j, hj with
  | 0, hj => simp at hj; rw [← hj]; exact h0
  | 1, hj => simp at hj; rw [← hj]; exact h1
  | 2, hj => simp at hj; rw [← hj]; exact h2
  | j + 3, hj => simp at hj
set_option maxHeartbeats 1000000 in
theorem pthings_any (g : Nat) (fv mv : Value) (c : Code) (n : Int) (gm : Nat) (lv : Value) (w : World) (hB : Blk w g 111 (tabCells fv mv c n gm lv)) (hF : Faults w fv c.faults) (hM : Strs w mv c.man) (h6 : c.faults.length ≤ 1000000 ∧ c.man.length ≤ 1000000) :
    Calls Tryz.prog 109 #[.pointer (some ⟨g, 0, none⟩)] w fun e w' => e = .returned (.int .i64 c.things) ∧ Ext w w' := by
  obtain ⟨A, cp, rfl, h1, h2, h3, h4⟩ := hF
  obtain ⟨A', cp', rfl, h1', h2', h3', h4'⟩ := hM
  unfold maxLen at h2 h2'
  have b0 := hB.cell 0; have b1 := hB.cell 1
  simp [tabCells] at b0 b1
  have hth : (c.things : Int) = (c.faults.length : Int) + c.man.length := by unfold Code.things; omega
  have Hth := Lib.hid hth
  obtain ⟨h61, h62⟩ := h6
  have z1 : IntKind.i64.wrap ((c.faults.length : Int) + c.man.length) = (c.faults.length : Int) + c.man.length := IntWalk.i64_in _ (by omega)
  clear h3 h4 h3' h4' hth
  go_enter Tryz.func109, Tryz.ntmps109
  go_wp2
  refine wp_region_quiet_lit (by kernel_rfl) (by kernel_rfl) ?_
  repeat (any_goals (first | go_big_quiet_step (fail) | quiet_step (fail)))
  refine wpQuiet_nil ?_
  intro _ hw'
  obtain ⟨nq, hw''⟩ := hw'
  subst hw''
  go_wp2
  go_ret
  exact ⟨ret_i Hth.out.symm, (Ext.refl w).drewN _⟩
set_option maxHeartbeats 1000000 in
theorem ppoints_any (g : Nat) (fv mv : Value) (c : Code) (n : Int) (gm : Nat) (lv : Value) (x : Int) (w : World) (hB : Blk w g 111 (tabCells fv mv c n gm lv)) (hF : Faults w fv c.faults) (h0 : 0 ≤ x) :
    Calls Tryz.prog 110 #[.pointer (some ⟨g, 0, none⟩), .int .i64 x] w fun e w' => e = .returned (.int .i64 (c.pts x)) ∧ Ext w w' := by
  obtain ⟨A, cp, rfl, h1, h2, h3, h4⟩ := hF
  unfold maxLen at h2
  have b0 := hB.cell 0
  simp [tabCells] at b0
  obtain ⟨j, rfl⟩ := Int.eq_ofNat_of_zero_le h0
  clear h3
  by_cases hj : j < c.faults.length
  · obtain ⟨ad, rfl, hc⟩ := h4 (by omega)
    have e1 := hc.f1 hj
    have Hr := Lib.hid (show c.pts (j : Int) = c.faults[j].points by simp [Code.pts, hj])
    have z1 : (j : Int) < c.faults.length := by omega
    clear h4 hc
    go_enter Tryz.func110, Tryz.ntmps110
    go_wp2
    go_ret
    exact ⟨ret_i Hr.out.symm, Ext.refl w⟩
  · have Hr := Lib.hid (show c.pts (j : Int) = 0 by simp [Code.pts, hj])
    have z1 : ¬ ((j : Int) < c.faults.length) := by omega
    clear h4
    go_enter Tryz.func110, Tryz.ntmps110
    go_wp2
    go_ret
    exact ⟨ret_i Hr.out.symm, Ext.refl w⟩
end Go.Bp
end
