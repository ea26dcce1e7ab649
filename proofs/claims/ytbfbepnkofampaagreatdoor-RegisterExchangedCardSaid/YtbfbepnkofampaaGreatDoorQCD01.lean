/- Chapter 11: contracts of functions of the program and of the reference, and plain laws (out of RgW). No condition of its own. -/
import Derived.Test.YtbfbepnkofampaaGreatDoorQBCD01
set_option maxRecDepth 100000
set_option linter.all false
section
namespace Go.Rg
open Go.Bp
namespace Rules
variable {r : Rules}
def grantG (r : Rules) (l : List Event) (x : Event) : Grant := ⟨x.day, r.rightOf x, 0, r.endG l x⟩
theorem grants_go {born : Int} {l : List Event} (hs : l.Pairwise fun a b => a.day ≤ b.day) : ∀ (xs pre : List Event) (o : List Grant), l = pre ++ xs →
    (∀ g ∈ o, g.reason = 0 → ∃ x ∈ pre, Got r born l x ∧ g = r.grantG l x) → (∀ x ∈ pre, Got r born l x → r.grantG l x ∈ o) →
    (∀ g ∈ r.grantsTo born l xs o, g.reason = 0 → ∃ x ∈ l, Got r born l x ∧ g = r.grantG l x) ∧ (∀ x ∈ l, Got r born l x → r.grantG l x ∈ r.grantsTo born l xs o)
  | [], pre, o, hl, h1, h2 => by
    rw [List.append_nil] at hl
    subst hl
    exact ⟨h1, h2⟩
  | x :: xs, pre, o, hl, h1, h2 => by
    have hx : x ∈ l := by rw [hl]; simp
    have hpre : ∀ y ∈ l, y.day < x.day → y ∈ pre := by
      intro y hy hlt
      rw [hl] at hy hs
      rcases List.mem_append.1 hy with h | h
      · exact h
      · exfalso
        rcases List.mem_cons.1 h with rfl | h
        · omega
        · have := (List.pairwise_append.1 hs).2.1
          rw [List.pairwise_cons] at this
          have := this.1 y h; omega
    unfold grantsTo
    split
    · rename_i hk
      have key : r.reasonOf born l o x (r.rightOf x) = 0 ↔ Got r born l x := by
        constructor
        · intro h
          unfold reasonOf at h
          simp only at h
          split at h; · omega
          rename_i a1
          split at h; · omega
          rename_i a2
          split at h; · omega
          rename_i a3
          split at h; · omega
          rename_i a4
          have hm : Meets r born l x := ⟨hx, hk, by simpa using a1, fun e => by
            cases e2 : inB x.day (r.daysOf x).lo (r.daysOf x).hi
            · exact absurd ⟨e, e2⟩ a2
            · rfl, by omega⟩
          by_cases hn : (r.sys.at_ (r.rightOf x).cls).needs < 0
          · exact .free hm hn
          · have a4 : (o.any fun g => decide (g.day < x.day) && decide (g.reason = 0) && decide (x.day < g.end_) && r.sys.covers g.right.cls (r.sys.at_ (r.rightOf x).cls).needs) = true := by
              cases e : (o.any fun g => decide (g.day < x.day) && decide (g.reason = 0) && decide (x.day < g.end_) && r.sys.covers g.right.cls (r.sys.at_ (r.rightOf x).cls).needs)
              · exact absurd ⟨by omega, e⟩ a4
              · rfl
            obtain ⟨g, hg, hg2⟩ := List.any_eq_true.1 a4
            simp only [Bool.and_eq_true, decide_eq_true_eq] at hg2
            obtain ⟨y, _, hgot, rfl⟩ := h1 g hg hg2.1.1.2
            exact .after hm hgot hg2.1.1.1 hg2.1.2 hg2.2
        · intro h
          have hm := h.meets
          unfold reasonOf
          simp only
          rw [if_neg (by simpa using hm.ban), if_neg (fun hh => by rw [hm.force hh.1] at hh; simp at hh), if_neg (by have := hm.age; omega), if_neg]
          rintro ⟨n1, n2⟩
          cases h with
          | free _ hn => omega
          | @after _ y _ hy hlt hend hc =>
            have hg := h2 y (hpre y hy.meets.mem hlt) hy
            have h6 : (decide ((r.grantG l y).day < x.day) && decide ((r.grantG l y).reason = 0) && decide (x.day < (r.grantG l y).end_) && r.sys.covers (r.grantG l y).right.cls (r.sys.at_ (r.rightOf x).cls).needs) = true := by
              simp only [Bool.and_eq_true, decide_eq_true_eq]
              exact ⟨⟨⟨hlt, rfl⟩, hend⟩, hc⟩
            have : (o.any fun g => decide (g.day < x.day) && decide (g.reason = 0) && decide (x.day < g.end_) && r.sys.covers g.right.cls (r.sys.at_ (r.rightOf x).cls).needs) = true := List.any_eq_true.2 ⟨_, hg, h6⟩
            rw [n2] at this
            cases this
      refine grants_go hs xs (pre ++ [x]) _ (by rw [hl]; simp) ?_ ?_
      · intro g hg h0
        rcases List.mem_append.1 hg with hg | hg
        · obtain ⟨y, hy, h⟩ := h1 g hg h0
          exact ⟨y, List.mem_append_left _ hy, h⟩
        · rw [List.mem_singleton] at hg
          subst hg
          refine ⟨x, by simp, key.1 h0, ?_⟩
          simp only at h0
          unfold grantG
          rw [h0]; rfl
      · intro y hy hg
        rcases List.mem_append.1 hy with hy | hy
        · exact List.mem_append_left _ (h2 y hy hg)
        · rw [List.mem_singleton] at hy
          subst hy
          refine List.mem_append_right _ ?_
          rw [List.mem_singleton]
          unfold grantG
          rw [key.2 hg]; rfl
    · rename_i hk
      refine grants_go hs xs (pre ++ [x]) o (by rw [hl]; simp) ?_ ?_
      · intro g hg h0
        obtain ⟨y, hy, h⟩ := h1 g hg h0
        exact ⟨y, List.mem_append_left _ hy, h⟩
      · intro y hy hg
        rcases List.mem_append.1 hy with hy | hy
        · exact h2 y hy hg
        · rw [List.mem_singleton] at hy
          subst hy
          exact absurd hg.meets.kind hk
theorem held_mem {born : Int} {l : List Event} (hs : l.Pairwise fun a b => a.day ≤ b.day) {day : Int} {y : Right} : y ∈ heldL (r.grants born l) day ↔ ∃ x, Got r born l x ∧ x.day ≤ day ∧ day < r.endG l x ∧ r.rightOf x = y := by
  obtain ⟨h1, h2⟩ := grants_go (r := r) (born := born) hs l [] [] rfl (by simp) (by simp)
  unfold heldL
  rw [List.mem_map]
  constructor
  · rintro ⟨g, hg, rfl⟩
    obtain ⟨hg, hh⟩ := List.mem_filter.1 hg
    unfold holds at hh
    simp only [Bool.and_eq_true, decide_eq_true_eq] at hh
    obtain ⟨x, _, hx, rfl⟩ := h1 g hg hh.1.2
    exact ⟨x, hx, hh.1.1, hh.2, rfl⟩
  · rintro ⟨x, hx, hd, he, rfl⟩
    refine ⟨r.grantG l x, List.mem_filter.2 ⟨h2 x hx.meets.mem hx, ?_⟩, rfl⟩
    unfold holds grantG
    simp only [Bool.and_eq_true, decide_eq_true_eq]
    exact ⟨⟨hd, trivial⟩, he⟩
theorem alike_of {l m : List Event} (h : ∀ x, x.kind ≠ 0 → x.kind ≠ 1 → (x ∈ l ↔ x ∈ m)) : Alike (sortE l) (sortE m) := by
  refine ⟨sort_filter fun x hx => ?_, ?_, sort_filter fun x hx => ?_⟩
  · unfold isOff at hx; rw [decide_eq_true_eq] at hx; exact h x (by omega) (by omega)
  · unfold courts; rw [sort_filter (l := l) (m := m) fun x hx => ?_]
    rw [decide_eq_true_eq] at hx; exact h x (by omega) (by omega)
  · rw [decide_eq_true_eq] at hx; exact h x (by omega) (by omega)
end Rules
end Go.Rg
end
