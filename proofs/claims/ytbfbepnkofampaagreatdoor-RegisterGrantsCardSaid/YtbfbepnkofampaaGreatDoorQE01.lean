/- Chapter 11: contracts of functions of the program and of the reference, and plain laws (out of RgA RgD RgT RgU). No condition of its own. -/
import Derived.Test.YtbfbepnkofampaaGreatDoorP15
set_option maxRecDepth 100000
set_option linter.all false
section
namespace Go.Rg
open Go.Bp
def longRef (y m : Int) : Int := if m = 4 ∨ m = 6 ∨ m = 9 ∨ m = 11 then 30 else if m ≠ 2 then 31 else if y.tmod 400 = 0 ∨ y.tmod 4 = 0 ∧ y.tmod 100 ≠ 0 then 29 else 28
theorem long_eq {y m : Int} (h : inB m 1 12 = true) : longRef y m = monthLen (leap y) m := by
  have hm := inB_t.1 h
  have h2 : (if y.tmod 400 = 0 ∨ y.tmod 4 = 0 ∧ y.tmod 100 ≠ 0 then (29 : Int) else 28) = if leap y then 29 else 28 := by
    have : (y.tmod 400 = 0 ∨ y.tmod 4 = 0 ∧ y.tmod 100 ≠ 0) ↔ leap y = true := by
      unfold leap
      simp only [Bool.and_eq_true, Bool.or_eq_true, decide_eq_true_eq]
      constructor
      · rintro (h | h)
        · refine ⟨?_, .inr h⟩
          have := Int.dvd_of_tmod_eq_zero h
          exact Int.tmod_eq_zero_of_dvd (by omega)
        · exact ⟨h.1, .inl h.2⟩
      · rintro ⟨h1, h2 | h2⟩
        · exact .inr ⟨h1, h2⟩
        · exact .inl h2
    by_cases hl : leap y = true
    · rw [if_pos (this.2 hl), if_pos hl]
    · rw [if_neg (fun h => hl (this.1 h)), if_neg hl]
  unfold longRef monthLen lens
  rw [h2]
  have : m = 1 ∨ m = 2 ∨ m = 3 ∨ m = 4 ∨ m = 5 ∨ m = 6 ∨ m = 7 ∨ m = 8 ∨ m = 9 ∨ m = 10 ∨ m = 11 ∨ m = 12 := by omega
  rcases this with rfl | rfl | rfl | rfl | rfl | rfl | rfl | rfl | rfl | rfl | rfl | rfl <;> simp
end Go.Rg
end
section
namespace Go.Rg
open Go.Bp
def oldAt (born day : Int) (n : Int) : Bool :=
  let d := dateOf born
  let r := dayOf (d.year + n) d.month (min d.day (longRef (d.year + n) d.month))
  decide (r.2 = 0) && decide (r.1 ≤ day)
theorem age_parts {born day : Int} (h0 : 0 ≤ born) (h1 : born ≤ day) (h2 : day ≤ 40000) : ∃ A : Nat, ageAns born day = ((A : Int), 0) ∧ A ≤ 109 ∧ ∀ n : Nat, 1 ≤ n → (oldAt born day n = true ↔ n ≤ A) := by
  obtain ⟨va, va2, va3⟩ := date_ok (day := born) h0 (by omega)
  obtain ⟨vb, vb2, vb3⟩ := date_ok (day := day) (by omega) h2
  unfold ageAns oldAt
  rw [if_neg (by rw [inB_t.2 (show 0 ≤ born ∧ born ≤ 40000 by omega), inB_t.2 (show 0 ≤ day ∧ day ≤ 40000 by omega)]; simp), if_neg (by omega)]
  generalize dateOf born = a at va va2 va3 ⊢
  generalize dateOf day = b at vb vb2 vb3 ⊢
  obtain ⟨ay, am, ad⟩ := a
  obtain ⟨by_, bm, bd⟩ := b
  simp only at va va2 va3 vb vb2 vb3 ⊢
  have ha := va.hy; have hb := vb.hy
  have hma := inB_t.1 va.hm; have hda := inB_t.1 va.hd
  have hle : ay < by_ ∨ ay = by_ ∧ (am < bm ∨ am = bm ∧ ad ≤ bd) := (ord_lt va vb).1 (by omega)
  -- the birthday in a year
  have hbd : ∀ y, 2000 ≤ y → y ≤ 2202 → Valid y am (min ad (monthLen (leap y) am)) := fun y h1 h2 => by
    have := (before_succ (leap y) va.hm).2
    exact ⟨⟨h1, h2⟩, va.hm, inB_t.2 (by omega)⟩
  obtain ⟨B, hB⟩ : ∃ B, min ad (monthLen (leap by_) am) = B := ⟨_, rfl⟩
  have hBa : B ≤ ad := by omega
  have hcond : ∀ n : Nat, 1 ≤ n → ((decide ((dayOf (ay + n) am (min ad (longRef (ay + n) am))).2 = 0) && decide ((dayOf (ay + n) am (min ad (longRef (ay + n) am))).1 ≤ day)) = true ↔ (ay + n < by_ ∨ ay + n = by_ ∧ (am < bm ∨ am = bm ∧ B ≤ bd))) := by
    intro n hn
    rw [long_eq va.hm]
    have hdm : inB (min ad (monthLen (leap (ay + n)) am)) 1 (monthLen (leap (ay + n)) am) = true := by
      have := (before_succ (leap (ay + n)) va.hm).2
      exact inB_t.2 (by omega)
    rw [day_of va.hm hdm]
    by_cases hy : inB (ay + n) 2000 2200 = false
    · rw [if_pos hy]
      have := inB_f.1 hy
      simp only [Bool.and_eq_true, decide_eq_true_eq]
      constructor
      · rintro ⟨h, _⟩; exact absurd h (by decide)
      · intro h; omega
    · have hy2 : inB (ay + n) 2000 2200 = true := by simpa using hy
      have hy3 := inB_t.1 hy2
      rw [if_neg hy]
      have hV := hbd (ay + n) hy3.1 (by omega)
      have hol := ord_lt hV vb
      rw [vb3] at hol
      have hBy : ay + n = by_ → min ad (monthLen (leap (ay + n)) am) = B := by intro e; rw [e]; exact hB
      by_cases h4 : 40000 < ord (ay + n) am (min ad (monthLen (leap (ay + n)) am))
      · rw [if_pos h4]
        simp only [Bool.and_eq_true, decide_eq_true_eq]
        constructor
        · rintro ⟨h, _⟩; exact absurd h (by decide)
        · intro h
          have : ord (ay + n) am (min ad (monthLen (leap (ay + n)) am)) ≤ day := hol.2 (by
            rcases h with h | ⟨h, h'⟩
            · exact .inl h
            · exact .inr ⟨h, by rw [hBy h]; exact h'⟩)
          omega
      · rw [if_neg h4]
        simp only [decide_true, Bool.true_and, decide_eq_true_eq]
        rw [hol]
        constructor
        · rintro (h | ⟨h, h'⟩)
          · exact .inl h
          · exact .inr ⟨h, by rw [hBy h] at h'; exact h'⟩
        · rintro (h | ⟨h, h'⟩)
          · exact .inl h
          · exact .inr ⟨h, by rw [hBy h]; exact h'⟩
  rw [hB]
  by_cases hc : bm < am ∨ bm = am ∧ bd < B
  · refine ⟨(by_ - ay - 1).toNat, ?_, by omega, fun n hn => ?_⟩
    · rw [if_pos hc]; congr 1; omega
    · rw [hcond n hn]; omega
  · refine ⟨(by_ - ay).toNat, ?_, by omega, fun n hn => ?_⟩
    · rw [if_neg hc]; congr 1; omega
    · rw [hcond n hn]; omega
end Go.Rg
end
section
namespace Go.Rg
open Go.Bp
namespace Rules
variable {r : Rules}
theorem reason_age {born : Int} {l : List Event} {o : List Grant} {x : Event} {y : Right} (h : r.reasonOf born l o x y = 0) : (r.sys.at_ y.cls).age ≤ (ageAns born x.day).1 := by
  unfold reasonOf at h
  simp only at h
  split at h; · omega
  split at h; · omega
  split at h; · omega
  omega
theorem least_mem {s : Sys} {l : List Right} {y : Right} (h : y ∈ s.least l) : y ∈ l ∧ (0 ≤ y.cls ∧ y.cls < s.classes.length) := by
  unfold Sys.least Sys.ordered at h
  have h1 := (List.mem_filter.1 h).1
  have h2 := List.mem_filter.1 h1
  exact ⟨by simpa using h2.2, (Sys.all_mem.1 h2.1).1⟩
theorem held_grant {p : Person} {day : Int} {y : Right} (h : y ∈ r.sys.least (heldL (r.grants p.born (sortE p.events)) day)) :
    (∃ x ∈ p.events, (x.kind = 0 ∨ x.kind = 1) ∧ x.day ≤ day ∧ r.rightOf x = y ∧ (r.sys.at_ y.cls).age ≤ (ageAns p.born x.day).1) ∧ 0 ≤ y.cls ∧ y.cls < r.sys.classes.length := by
  obtain ⟨h1, h2⟩ := least_mem h
  refine ⟨?_, h2⟩
  unfold heldL at h1
  obtain ⟨g, hg, rfl⟩ := List.mem_map.1 h1
  obtain ⟨hg, hh⟩ := List.mem_filter.1 hg
  unfold holds at hh
  simp only [Bool.and_eq_true, decide_eq_true_eq] at hh
  unfold grants at hg
  rcases grantsTo_mem _ _ hg with h | ⟨x, hx, hk, hd, hr, o', he⟩
  · cases h
  · refine ⟨x, (sortE_mem _ _).1 hx, hk, by omega, hr.symm, ?_⟩
    have := reason_age (he.symm.trans hh.1.2)
    rw [hr]; exact this
end Rules
end Go.Rg
end
section
namespace Go.Rg
open Go.Bp
theorem old_mono {born d e n : Int} (h0 : 0 ≤ d) (h : d ≤ e) (he : e ≤ 40000) (h1 : oldAt born d n = true) : oldAt born e n = true := by
  obtain ⟨vd, _, od⟩ := date_ok h0 (by omega)
  obtain ⟨ve, _, oe⟩ := date_ok (day := e) (by omega) he
  have hle := (ord_lt vd ve).1 (by omega)
  unfold oldAt at h1 ⊢
  simp only [Bool.and_eq_true, Bool.or_eq_true, decide_eq_true_eq] at h1 ⊢
  omega
theorem age_mono {born d e : Int} (h0 : 0 ≤ born) (h1 : born ≤ d) (h : d ≤ e) (he : e ≤ 40000) : (ageAns born d).1 ≤ (ageAns born e).1 := by
  obtain ⟨A, ea, _, ha⟩ := age_parts h0 h1 (by omega)
  obtain ⟨B, eb, _, hb⟩ := age_parts (born := born) (day := e) h0 (by omega) he
  rw [ea, eb]
  simp only
  by_cases hA : A = 0
  · omega
  · have := (hb A (by omega)).1 (old_mono (by omega) h he ((ha A (by omega)).2 (by omega)))
    omega
namespace Rules
variable {r : Rules}
end Rules
end Go.Rg
end
