import Derived.Test.YtbfbepnkofampaaGreatDoorXSAX03
import Derived.Test.YtbfbepnkofampaaGreatDoorXP29
import Derived.Test.YtbfbepnkofampaaGreatDoorXPX15
set_option maxRecDepth 100000
set_option synthInstance.maxSize 2000
set_option synthInstance.maxHeartbeats 400000
set_option maxHeartbeats 8000000
set_option linter.all false
section
namespace Go.Rg
open Go Go.Bp Go.RowKit Go.Walk Go.Proofs
theorem runs_no {all : List Span} {d : Nat} (h : hasDay all d = false) : runsTo all (d + 1) = runsTo all d := by
  show (if hasDay all d = false then runsTo all d else _) = _
  rw [if_pos h]
theorem runs_new {all : List Span} {d : Nat} (h : hasDay all d = true) (hn : ∀ hl : 0 < (runsTo all d).length, ((runsTo all d)[(runsTo all d).length - 1]).hi ≠ (d : Int) - 1) : runsTo all (d + 1) = runsTo all d ++ [⟨d, d⟩] := by
  show (if hasDay all d = false then runsTo all d else _) = _
  rw [if_neg (by rw [h]; simp)]
  cases e : (runsTo all d).getLast? with
  | none => rfl
  | some s =>
    have hne : runsTo all d ≠ [] := fun h => by rw [h] at e; cases e
    have hl : 0 < (runsTo all d).length := List.length_pos_iff.2 hne
    have hs : (runsTo all d)[(runsTo all d).length - 1] = s := by
      rw [List.getLast?_eq_getElem?] at e
      rw [List.getElem?_eq_getElem (by omega)] at e
      exact Option.some.inj e
    have := hn hl
    rw [hs] at this
    simp only
    rw [if_neg this]
theorem runs_more {all : List Span} {d j : Nat} {s : Span} (h : hasDay all d = true) (hj : (runsTo all d).length = j + 1) (hs : (runsTo all d)[j]'(by omega) = s) (he : s.hi = (d : Int) - 1) : runsTo all (d + 1) = (runsTo all d).set j ⟨s.lo, d⟩ := by
  show (if hasDay all d = false then runsTo all d else _) = _
  rw [if_neg (by rw [h]; simp)]
  have e : (runsTo all d).getLast? = some s := by
    rw [List.getLast?_eq_getElem?, show (runsTo all d).length - 1 = j by omega, List.getElem?_eq_getElem (by omega), hs]
  rw [e]
  simp only
  rw [if_pos he]
  rw [List.set_eq_take_append_cons_drop, if_pos (by omega), List.dropLast_eq_take, show (runsTo all d).length - 1 = j by omega, List.drop_of_length_le (by omega)]
theorem runs_len (all : List Span) : ∀ d, (runsTo all d).length ≤ d
  | 0 => by simp [runsTo]
  | d + 1 => by
    have ih := runs_len all d
    by_cases h : hasDay all d = false
    · rw [runs_no h]; omega
    · have h : hasDay all d = true := by simpa using h
      by_cases hn : ∃ hl : 0 < (runsTo all d).length, ((runsTo all d)[(runsTo all d).length - 1]).hi = (d : Int) - 1
      · obtain ⟨hl, he⟩ := hn
        rw [runs_more (j := (runsTo all d).length - 1) h (by omega) rfl he, List.length_set]; omega
      · rw [runs_new h fun hl e => hn ⟨hl, e⟩]; simp; omega
theorem add_cell (g j : Nat) : ((⟨g, 0, none⟩ : Addr).add (j * 2)).add 1 = ⟨g, j * 2 + 1, none⟩ := by
 unfold Addr.add
 by_cases h : j * 2 = 0 <;> simp [h]
theorem span_set : ∀ (o : List Span) (j : Nat) (lo hi d : Int), o[j]? = some ⟨lo, hi⟩ → (encL o).set (j * 2 + 1) (.int .i64 d) = encL (o.set j ⟨lo, d⟩)
 | [], _, _, _, _, h => by simp at h
 | s :: o, 0, lo, hi, d, h => by
  simp only [List.getElem?_cons_zero, Option.some.injEq] at h
  subst h
  rfl
 | s :: o, j + 1, lo, hi, d, h => by
  simp only [List.getElem?_cons_succ] at h
  have ih := span_set o j lo hi d h
  show ([Value.int .i64 s.lo, Value.int .i64 s.hi] ++ encL o).set ((j + 1) * 2 + 1) _ = [Value.int .i64 s.lo, Value.int .i64 s.hi] ++ encL (o.set j ⟨lo, d⟩)
  rw [← ih, show (j + 1) * 2 + 1 = (j * 2 + 1) + 2 by omega]
  rfl
set_option maxHeartbeats 8000000 in
theorem rBans_any (r : Rules) (p : Person) (v pv : Value) (l : List Span) (n : Int) (w : World) (h : RulesV w v r) (hp : PersonV w pv p) (hs : r.bansAns p = (l, n)) : Calls Tryz.prog 23 #[v, pv] w (RLI w l n) := by
 have i1 := RulesB.mk h
 have i2 := PersonB.mk hp
 obtain ⟨A1, n1, c1, A2, c2, A3, c3, rfl, hn1, -⟩ := h.h
 subst hn1
 obtain ⟨A, c, rfl, hl⟩ := hp.h
 have i3 := ListB.mk hl
 unfold Rules.bansAns at hs
 by_cases hz : r.personErr p = 0
 ·rw [if_neg (by simp [hz])] at hs
  injection hs with m1 m2
  subst m2
  have i4 := RPerE.mk hz
  have hlen : p.events.length ≤ 30 := kM hz
  have i5 : LenC2 p.events := ⟨by omega⟩
  have i6 : EvsC r (sortE p.events) := ⟨Rules.evs_ok hz⟩
  have i7 : LenC2 (sortE p.events) := ⟨by have := sortE_len p.events; omega⟩
  have htb := (Rules.taken_both hz).1
  have Hal := Lib.hid (show courts (sortE p.events) ++ (r.takenR (sortE p.events)).2 = r.bansOf (sortE p.events) by rw [htb]; rfl)
  have hbl : (r.takenR (sortE p.events)).2.length ≤ 1000 := by
   have := (Rules.takenK_len (r := r) (sortE p.events) (sortE p.events).length).2
   rw [Rules.takenK_all] at this
   have := i7.h
   omega
  have hcl : (courts (sortE p.events)).length ≤ 1000 := Nat.le_trans (Bh _) i7.h
  have HM := Lib.hid m1
  clear hz htb m1
  go_enter Tryz.func23, Tryz.ntmps23
  go_wp2_with (first | (with_reducible refine aB ?_; rintro _ Vt ⟨gt, At, ct, rfl, (_ : BlkC _ _ _ _), (_ : ListB Span _ _ _), (_ : StepC _ _)⟩) | (with_reducible refine aB ?_; rintro _ Vc ⟨Ac, cc, rfl, (_ : RowC _ _ _ 95 2 _ _), (_ : StepC _ _)⟩) | (with_reducible refine kK ?_; intro A9 c9 Va hR hG) | (first | (with_reducible refine aA ?_) | (with_reducible refine aB ?_; first | rintro _ V ⟨rfl, (_ : StepC _ _)⟩ | rintro _ V ⟨_, _, rfl, _, (_ : StepC _ _)⟩) | (with_reducible refine aH ?_; intro V g _ _ _)))
  obtain ⟨W1, rfl⟩ : ∃ W1, W1 = Va := ⟨Va, rfl⟩
  have hall : ListV W1 (.slice A9 ((courts (sortE p.events)).length + (r.takenR (sortE p.events)).2.length) c9) (r.bansOf (sortE p.events)) := by
   rw [← Hal.out]; exact hR.list (by rw [Walk.encL_app]) rfl (by simp)
  obtain ⟨all, hal⟩ : ∃ x, r.bansOf (sortE p.events) = x := ⟨_, rfl⟩
  obtain ⟨na, hna⟩ : ∃ x, (courts (sortE p.events)).length + (r.takenR (sortE p.events)).2.length = x := ⟨_, rfl⟩
  have hM := HM.out
  rw [hal] at hM hall
  simp only [hna] at hall ⊢
  have i9 := ListB.mk hall
  have HM2 := Lib.hid hM
  have hw1 : Ext w W1 := ExtC.h
  have j1 := StepC.mk hw1
  clear HM hal hM hR hG hna hall Hal hw1
  go_loopw [12, 11] (fun dv ov wr => StepC W1 wr ∧ ∃ (d : Nat) (o : List Span) (A4 : Option Addr) (c4 : Nat), d ≤ 40001 ∧ dv = .int .i64 d ∧ o = runsTo all d ∧ ov = .slice A4 o.length c4 ∧ RowC wr (.slice A4 o.length c4) W1 95 2 o.length (encL o)) (fun dv _ _ => 40001 - (RowKit.intOf dv).toNat)
  case atStart => exact ⟨⟨Ext.refl _⟩, 0, [], none, 0, by omega, rfl, rfl, rfl, RowC.nil⟩
  case round =>
   obtain ⟨_, d, o, A4, c4, hd, rfl, ho, rfl, hR⟩ := hrel
   have hol : o.length ≤ 40001 := by have := runs_len all d; rw [← ho] at this; omega
   by_cases ld : d < 40001
   ·have zd : IntKind.i64.wrap ((d : Int) + 1) = (d : Int) + 1 := IntWalk.i64_in _ (by omega)
    have zd2 : IntKind.i64.wrap ((d : Int) - 1) = (d : Int) - 1 := IntWalk.i64_in _ (by omega)
    have hdl : (d : Int) ≤ 40000 := by omega
    have HN := Lib.hid (show hasDay all d = false → runsTo all (d + 1) = o from fun h => by rw [runs_no h, ← ho])
    obtain ⟨b, hb⟩ : ∃ b, hasDay all d = b := ⟨_, rfl⟩
    have Hb := Lib.hid hb
    have Ho := Lib.hid ho
    cases b
    ·have HN2 := Lib.hid (HN.out Hb.out)
     clear HN ho
     go_wp2_with (first | (with_reducible refine aB ?_; first | rintro _ V ⟨rfl, (_ : StepC _ _)⟩))
     exact ⟨⟨⟨ExtC.h⟩, d + 1, o, A4, c4, ld, by push_cast; rfl, HN2.out.symm, rfl, inferInstance⟩, by simp [RowKit.intOf]; omega⟩
    ·clear HN
     have HR := Lib.hid (show (∀ hl : 0 < o.length, (o[o.length - 1]).hi ≠ (d : Int) - 1) → runsTo all (d + 1) = o ++ [⟨d, d⟩] from fun h => by
      subst ho
      exact runs_new Hb.out h)
     have HM := Lib.hid (show ∀ (j : Nat) (hj : o.length = j + 1) (s : Span), o[j]'(by omega) = s → s.hi = (d : Int) - 1 → runsTo all (d + 1) = o.set j ⟨s.lo, d⟩ from fun j hj s h1 h2 => by
      subst ho
      rw [runs_more Hb.out hj h1 h2])
     clear ho
     obtain ⟨hc, hChid⟩ : ∃ f : Nat → Array Oper → Bool → Go.Code, f = Go.Code.region := ⟨_, rfl⟩
     rw [show Go.Code.region 12 = hc 12 by rw [hChid]]
     have HCh := Lib.hid hChid
     clear hChid
     by_cases ho0 : 0 < o.length
     ·obtain ⟨j, hj⟩ : ∃ j, o.length = j + 1 := ⟨o.length - 1, by omega⟩
      have hjl : j < o.length := by omega
      obtain ⟨g, rfl⟩ := vS hR ho0
      obtain ⟨_, e1, ha⟩ := (hR.list (l := o) rfl rfl rfl).elem hjl
      injection e1 with e1
      subst e1
      obtain ⟨⟨lo, hi⟩, hx⟩ : ∃ x, o[j] = x := ⟨_, rfl⟩
      rw [hx] at ha
      have i5 : CellB wr ⟨g, j * 2 + 1, none⟩ (.int .i64 hi) := ⟨by have := ha 1 (.int .i64 hi) rfl; rwa [show ((⟨g, 0, none⟩ : Addr).add (j * Enc.size Span)).add 1 = ⟨g, j * 2 + 1, none⟩ from add_cell g j] at this⟩
      have zl : IntKind.i64.wrap ((o.length : Int) - 1) = (j : Int) := by rw [IntWalk.i64_in _ (by omega)]; omega
      have Hx := Lib.hid hx
      have Hj := Lib.hid hj
      clear ha hx hj
      by_cases hh : hi = (d : Int) - 1
      ·have HS := Lib.hid (HM.out j Hj.out _ Hx.out hh)
       have qh : (hi == (d : Int) - 1) = true := by simpa using hh
       clear HM HR hh
       go_wp2_with (first | (with_reducible refine aB ?_; first | rintro _ V ⟨rfl, (_ : StepC _ _)⟩))
       have hChid := HCh.out
       clear HCh
       subst hChid
       refine wp_region_lit ?_
       repeat' first | ((first | with_reducible refine bY ?_ | with_reducible refine iV ?_ | with_reducible refine gB ?_ | (with_reducible refine jJ (v := ?_) ?_ ?_; rotate_left; (· (intro hq W' h; cases h; infer_instance))) | (with_reducible refine bX (v := ?_) ?_ ?_; rotate_left; (· (intro W' h; cases h; first | (simp only [execOp, eS]; go_simp; (try with_reducible rfl))))) | (with_reducible refine eI (v := ?_) ?_ ?_; rotate_left; (· (intro hq W' h; cases h; simp only [execOp, eS, hq, mbT]; (try (simp only [Bool.and_eq_true, Bool.not_eq_true'] at hq; simp only [hq, mbT, Bool.not_false])); go_simp; (try with_reducible rfl))))); (try dsimp only [sS0, sS1])) | (first | (with_reducible refine dI ?_)) | (with_reducible refine bO ?_) | (with_reducible refine dD ?_)
       go_wp2_with (first | ((with_reducible refine Eb (v := .int .i64 (d : Int)) (inferInstance : RowC V (.slice (some ⟨g, 0, none⟩) o.length c4) W1 95 2 o.length (encL o)) ?_ ⟨by with_unfolding_all rfl, by with_unfolding_all rfl, by with_unfolding_all rfl, by with_unfolding_all rfl, by with_unfolding_all rfl, by omega⟩); intro V hR5 hG5))
       have e5 : (o.set j (⟨lo, d⟩ : Span)).length = o.length := List.length_set
       rw [span_set o j lo hi d (by rw [List.getElem?_eq_getElem hjl, Hx.out])] at hR5
       exact ⟨⟨⟨ExtC.h⟩, d + 1, o.set j ⟨lo, d⟩, some ⟨g, 0, none⟩, c4, ld, by push_cast; rfl, HS.out.symm, by rw [e5], by rw [e5]; exact hR5⟩, by simp [RowKit.intOf]; omega⟩
      ·have HS := Lib.hid (HR.out fun hl h => hh (by
        have e : o.length - 1 = j := by have := Hj.out; omega
        simp only [e] at h
        rw [Hx.out] at h; exact h))
       have qh : (hi == (d : Int) - 1) = false := by simpa using hh
       clear HM HR hh
       go_wp2_with (first | (with_reducible refine aB ?_; first | rintro _ V ⟨rfl, (_ : StepC _ _)⟩))
       have hChid := HCh.out
       clear HCh
       subst hChid
       refine wp_region_lit ?_
       repeat' first | ((first | with_reducible refine bY ?_ | with_reducible refine iV ?_ | with_reducible refine gB ?_ | (with_reducible refine jJ (v := ?_) ?_ ?_; rotate_left; (· (intro hq W' h; cases h; infer_instance))) | (with_reducible refine bX (v := ?_) ?_ ?_; rotate_left; (· (intro W' h; cases h; first | (simp only [execOp, eS]; go_simp; (try with_reducible rfl))))) | (with_reducible refine eI (v := ?_) ?_ ?_; rotate_left; (· (intro hq W' h; cases h; simp only [execOp, eS, hq, mbT]; (try (simp only [Bool.and_eq_true, Bool.not_eq_true'] at hq; simp only [hq, mbT, Bool.not_false])); go_simp; (try with_reducible rfl))))); (try dsimp only [sS0, sS1])) | (first | (with_reducible refine dI ?_)) | (with_reducible refine bO ?_) | (with_reducible refine dD ?_)
       go_wp2_with (first | (with_reducible refine bR ?_; intro A9 c9 Va hR9 hG9) | (first | (with_reducible refine aD ?_; intro V g _ _ _)))
       obtain ⟨A8, c8, e8, h8⟩ := cV HS.out hR9
       exact ⟨⟨⟨ExtC.h⟩, d + 1, _, A8, c8, ld, by push_cast; rfl, rfl, e8, h8⟩, by simp [RowKit.intOf]; omega⟩
     ·have HS := Lib.hid (HR.out fun h => absurd h ho0)
      clear HM HR
      go_wp2_with (first | (with_reducible refine aB ?_; first | rintro _ V ⟨rfl, (_ : StepC _ _)⟩))
      have hChid := HCh.out
      clear HCh
      subst hChid
      refine wp_region_lit ?_
      repeat' first | ((first | with_reducible refine bY ?_ | with_reducible refine lJ ?_ | (with_reducible refine bX (v := ?_) ?_ ?_; rotate_left; (· (intro W' h; cases h; first | (simp only [execOp, eS]; go_simp; (try with_reducible rfl)))))); (try dsimp only [sS0, sS1])) | (first | (with_reducible refine dI ?_)) | (with_reducible refine bO ?_) | (with_reducible refine dD ?_)
      go_wp2_with (first | (with_reducible refine bR ?_; intro A9 c9 Va hR9 hG9) | (first | (with_reducible refine aD ?_; intro V g _ _ _)))
      obtain ⟨A8, c8, e8, h8⟩ := cV HS.out hR9
      exact ⟨⟨⟨ExtC.h⟩, d + 1, _, A8, c8, ld, by push_cast; rfl, rfl, e8, h8⟩, by simp [RowKit.intOf]; omega⟩
   ·obtain rfl : d = 40001 := by omega
    rw [HM2.out] at ho
    subst ho
    have hdl : ¬ ((40001 : Nat) : Int) ≤ 40000 := by omega
    go_wp2
    go_ret2
    exact ⟨A4, c4, rfl, ⟨hR.list rfl rfl rfl⟩, ⟨ExtC.h⟩⟩
 ·rw [if_pos hz] at hs
  injection hs with m1 m2
  subst m1 m2
  obtain ⟨er, her⟩ : ∃ e, r.personErr p = e := ⟨_, rfl⟩
  have i4 := RPerE.mk her
  rw [her] at hz ⊢
  have q : (er != 0) = true := by simpa using hz
  clear hz her
  go_enter Tryz.func23, Tryz.ntmps23
  go_wp2_with (first | (with_reducible refine aA ?_) | (with_reducible refine aB ?_; first | rintro _ V ⟨rfl, (_ : StepC _ _)⟩) | (with_reducible refine aH ?_; intro V g _ _ _))
  go_ret2
  exact ⟨none, 0, rfl, ⟨ListV.nil⟩, ⟨ExtC.h⟩⟩
instance qRSkB {W : World} {v pv : Value} {r : Rules} {p : Person} {l : List Span} {n : Int} [h : RulesC W v r] [hp : PersonC W pv p] [q : RBanE r p l n] : FunC Tryz.prog 23 #[v, pv] W (RLI W l n) := ⟨rBans_any r p v pv l n W h.h hp.h q.h⟩
end Go.Rg
end
