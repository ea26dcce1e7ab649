/- Chapter 11: contracts of functions of the program and of the reference, and plain laws (out of RgT RgW). No condition of its own. -/
import Derived.Test.YtbfbepnkofampaaGreatDoorQBCDE01
import Derived.Test.YtbfbepnkofampaaGreatDoorQCD01
set_option maxRecDepth 100000
set_option linter.all false
section
namespace Go.Rg
open Go.Bp
namespace Rules
variable {r : Rules}
theorem person_of {p : Person} (hc : r.check.2.2 = 0) (hb : 0 ≤ p.born ∧ p.born ≤ 40000) (hn : p.events.length ≤ 30) (he : ∀ x ∈ p.events, r.eventErr p.born x = 0) : r.personErr p = 0 := by
  unfold personErr
  rw [if_neg (by simpa using hc), inB_t.2 hb, if_neg (by simp), if_neg (by omega), firstE_none (fun i hi => he _ (List.getElem_mem hi))]
end Rules
end Go.Rg
end
section
namespace Go.Rg
open Go.Bp
namespace Rules
variable {r : Rules}
theorem Got.moved {born : Int} {l m : List Event} (h : Alike l m) (hm : ∀ x ∈ l, (x.kind = 0 ∨ x.kind = 1) → (x.kind = 1 → inB x.day (r.daysOf x).lo (r.daysOf x).hi = true) → ∃ y ∈ m, (y.kind = 0 ∨ y.kind = 1) ∧ (y.kind = 1 → inB y.day (r.daysOf y).lo (r.daysOf y).hi = true) ∧ y.day = x.day ∧ r.rightOf y = r.rightOf x)
    {x : Event} (hx : Got r born l x) : ∃ y, Got r born m y ∧ y.day = x.day ∧ r.rightOf y = r.rightOf x := by
  have meets : ∀ {x}, Meets r born l x → ∃ y, Meets r born m y ∧ y.day = x.day ∧ r.rightOf y = r.rightOf x := by
    intro x hx
    obtain ⟨y, hy, k1, k2, k3, k4⟩ := hm x hx.mem hx.kind hx.force
    exact ⟨y, ⟨hy, k1, by rw [k3, ← h.banned]; exact hx.ban, k2, by rw [k3, k4]; exact hx.age⟩, k3, k4⟩
  induction hx with
  | free hx hn =>
    obtain ⟨y, hy, h1, h2⟩ := meets hx
    exact ⟨y, .free hy (by rw [h2]; exact hn), h1, h2⟩
  | @after x z hx hz hlt hend hc ih =>
    obtain ⟨y, hy, h1, h2⟩ := meets hx
    obtain ⟨z', hz', e1, e2⟩ := ih
    exact ⟨y, .after hy hz' (by omega) (by rw [h1, h.endG e1.symm e2.symm |>.symm]; exact hend) (by rw [e2, h2]; exact hc), h1, h2⟩
theorem least_same {s : Sys} {l m : List Right} (h : ∀ y, y ∈ l ↔ y ∈ m) : s.least l = s.least m := by
  have : s.ordered l = s.ordered m := by unfold Sys.ordered; congr 1; funext x; simp [h]
  unfold Sys.least; rw [this]
theorem exchanged_law {p : Person} {y : Event} (hk : y.kind = 1) (h' : r.personErr ⟨p.born, p.events ++ [y]⟩ = 0)
    (q : Person) (hq : r.personErr q = 0) (hqb : q.born = p.born) (hqe : if inB y.day (r.daysOf y).lo (r.daysOf y).hi = true then ∃ z : Event, q.events = p.events ++ [z] ∧ z.kind = 0 ∧ z.day = y.day ∧ z.right = r.rightOf y else q.events = p.events)
    {day : Int} (hd : 0 ≤ day ∧ day ≤ 40000) (hb : p.born ≤ day) : r.heldAns ⟨p.born, p.events ++ [y]⟩ day = r.heldAns q day := by
  rw [heldAns_of h' hd hb, heldAns_of hq hd (by rw [hqb]; exact hb)]
  simp only
  have hal : Alike (sortE (p.events ++ [y])) (sortE q.events) := by
    refine alike_of fun x h0 h1 => ?_
    have hne : x ≠ y := fun e => h1 (e ▸ hk)
    split at hqe
    · obtain ⟨z, hz, hz0, _⟩ := hqe
      have hnz : x ≠ z := fun e => h0 (e ▸ hz0)
      rw [hz]; simp [hne, hnz]
    · rw [hqe]; simp [hne]
  rw [hal.banned, hqb]
  split
  · rfl
  · congr 1
    apply least_same
    intro w
    rw [held_mem sorted_days, held_mem sorted_days]
    constructor
    · rintro ⟨x, hx, k1, k2, rfl⟩
      obtain ⟨x2, hx2, e1, e2⟩ := hx.moved hal fun x hx hk0 hf => by
        have hx := (sortE_mem _ _).1 hx
        rcases List.mem_append.1 hx with hx | hx
        · refine ⟨x, ?_, hk0, hf, rfl, rfl⟩
          rw [sortE_mem]
          split at hqe
          · obtain ⟨z, hz, _⟩ := hqe; rw [hz]; exact List.mem_append_left _ hx
          · rw [hqe]; exact hx
        · rw [List.mem_singleton] at hx
          subst hx
          rw [if_pos (hf hk)] at hqe
          obtain ⟨z, hz, z0, z1, z2⟩ := hqe
          refine ⟨z, by rw [sortE_mem, hz]; simp, .inl z0, fun e => by omega, z1, ?_⟩
          rw [← z2]; unfold rightOf; rw [if_neg (by omega)]
      exact ⟨x2, hx2, by omega, by rw [← hal.endG e1.symm e2.symm]; exact k2, e2⟩
    · rintro ⟨x, hx, k1, k2, rfl⟩
      have hal' : Alike (sortE q.events) (sortE (p.events ++ [y])) := ⟨hal.off.symm, hal.ban.symm, hal.ren.symm⟩
      obtain ⟨x2, hx2, e1, e2⟩ := hx.moved hal' fun x hx hk0 hf => by
        have hx := (sortE_mem _ _).1 hx
        split at hqe
        · rename_i hin
          obtain ⟨z, hz, z0, z1, z2⟩ := hqe
          rw [hz] at hx
          rcases List.mem_append.1 hx with hx | hx
          · exact ⟨x, by rw [sortE_mem]; exact List.mem_append_left _ hx, hk0, hf, rfl, rfl⟩
          · rw [List.mem_singleton] at hx
            subst hx
            refine ⟨y, by rw [sortE_mem]; simp, .inr hk, fun _ => hin, z1.symm, ?_⟩
            rw [← z2]
            show _ = r.rightOf x
            unfold rightOf; rw [if_neg (by omega)]
        · rw [hqe] at hx
          exact ⟨x, by rw [sortE_mem]; exact List.mem_append_left _ hx, hk0, hf, rfl, rfl⟩
      exact ⟨x2, hx2, by omega, by rw [← hal'.endG e1.symm e2.symm]; exact k2, e2⟩
end Rules
end Go.Rg
end
