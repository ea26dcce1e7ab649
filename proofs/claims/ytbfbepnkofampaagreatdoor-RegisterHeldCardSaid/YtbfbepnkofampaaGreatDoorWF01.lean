/- Chapter 11: contracts of functions of the program and of the reference, and plain laws (out of RgV). No condition of its own. -/
import Derived.Test.YtbfbepnkofampaaGreatDoorWCF01
set_option maxRecDepth 100000
set_option linter.all false
section
namespace Go.Rg
open Go.Bp
namespace Sys
variable {s : Sys}
end Sys
namespace Rules
variable {r : Rules}
theorem whyG_in {g : List Grant} {d : Drive} : r.whyG g d = 0 ∨ 3 ≤ r.whyG g d := by
  unfold whyG
  simp only
  split
  · exact .inl rfl
  · exact .inr (max_ge _ 3)
theorem banned_in (l : List Event) (d : Int) : r.bannedBy l d = 0 ∨ r.bannedBy l d = 1 ∨ r.bannedBy l d = 2 := by
  unfold bannedBy; split; · omega
  split <;> omega
theorem held_law {p : Person} (h : r.personErr p = 0) {d : Drive} (hd : r.driveErr p d = 0) : ∃ l n, r.heldAns p d.day = (l, 0) ∧ r.whyAns p d = (n, 0) ∧ r.sys.mayAns l d.cls d.features = (decide (n = 0), 0) ∧
    (hasDay (runsTo (r.bansOf (sortE p.events)) 40001) d.day = true ↔ n = 1 ∨ n = 2) ∧ (n = 1 ∨ n = 2 → l = []) ∧ l.length ≤ 30 := by
  obtain ⟨d1, d2, d3, d4⟩ := drive_ok hd
  obtain ⟨h1, h2, h3, h4⟩ := person_ok h
  have hb : (hasDay (runsTo (r.bansOf (sortE p.events)) 40001) d.day = true ↔ r.bannedBy (sortE p.events) d.day ≠ 0) := by
    rw [(runsTo_runs _ 40001).1.has]
    unfold bansOf bannedBy
    rw [has_app]
    cases hasDay (courts (sortE p.events)) d.day <;> cases hasDay (r.offs (sortE p.events)).bans d.day <;> simp <;> omega
  have hs : r.sys.check.2.2 = 0 := by
    unfold check at h1
    split at h1
    · simp at h1; exact h1
    · rename_i h; simpa using h
  have hm : ∀ l : List Right, l.length ≤ 40 → (∀ y ∈ l, r.sys.rightErr y = 0) → r.sys.mayAns l d.cls d.features = (r.sys.allow l d.cls d.features, 0) := fun l hn hl => by
    unfold Sys.mayAns Sys.asked
    rw [if_neg (by rw [if_neg (by simp [hs]), Sys.rights_0 hn hl]; simp), if_neg (by rw [inB_t.2 (by omega)]; simp), if_neg (by rw [inB_t.2 (by omega)]; simp)]
  have eh : r.heldAns p d.day = if r.bannedBy (sortE p.events) d.day ≠ 0 then ([], 0) else (r.sys.least (heldL (r.grants p.born (sortE p.events)) d.day), 0) := by
    unfold heldAns
    rw [if_neg (by simpa using h), if_neg (by rw [inB_t.2 d1]; simp), if_neg (by omega)]
  have ew : r.whyAns p d = (r.whyL p.born (sortE p.events) d, 0) := by
    unfold whyAns
    rw [if_neg (by simpa using h), if_neg (by simpa using hd)]
  rw [eh, ew]
  unfold whyL
  have w3 := whyG_in (r := r) (g := r.grants p.born (sortE p.events)) (d := d)
  rcases banned_in (r := r) (sortE p.events) d.day with e | e | e
  · rw [if_neg (by omega), if_neg (by omega)]
    obtain ⟨k1, k2⟩ := held_ok h d.day
    have k3 := Sys.least_len k1
    refine ⟨_, _, rfl, rfl, ?_, ?_, ?_, Nat.le_trans k3 k2⟩
    · rw [hm (r.sys.least _) (by omega) (fun y hy => k1 y ((Sys.ordered_mem k1 y).1 (List.mem_filter.1 hy).1)), Sys.allow_least (ok_of h1).sys k1 d3, Prod.mk.injEq]
      refine ⟨?_, rfl⟩
      rw [Bool.eq_iff_iff, ← whyG_0]; simp
    · rw [hb]; omega
    · omega
  · rw [if_pos (by omega), if_pos (by omega)]
    exact ⟨[], _, rfl, rfl, by rw [hm [] (by simp) (by simp), e]; simp [Sys.allow], by rw [hb]; omega, fun _ => rfl, by simp⟩
  · rw [if_pos (by omega), if_pos (by omega)]
    exact ⟨[], _, rfl, rfl, by rw [hm [] (by simp) (by simp), e]; simp [Sys.allow], by rw [hb]; omega, fun _ => rfl, by simp⟩
end Rules
end Go.Rg
end
