/- The lines chosen by bits; Fewest's law in plain Lean. -/
import Derived.Test.YthomnkgiaapljaaGreatDoorD10
import Derived.Test.YthomnkgiaapljaaGreatDoorD07
set_option maxRecDepth 100000
namespace Go.Bp
theorem chosenTo_sub (l : List Int) (b : Int) : ∀ k, k ≤ l.length → (chosenTo l b k).Sublist (l.take k)
  | 0, _ => by simp [chosenTo]
  | k + 1, hk => by
    have hlt : k < l.length := by omega
    have ih := chosenTo_sub l b k (by omega)
    rw [chosenTo_succ l b hlt, take_snoc l hlt]
    split
    · exact ih.append (List.Sublist.refl _)
    · exact ih.trans (List.sublist_append_left _ _)
theorem chosenOf_sub (s : Sheet) (b : Int) : (chosenOf s b).Sublist s.lost := by
  have := chosenTo_sub s.lost b s.lost.length (Nat.le_refl _)
  rwa [List.take_length] at this
theorem chosenTo_mono (l : List Int) {b d : Int} (h : ∀ i, i < l.length → bitAt b i = true → bitAt d i = true) : ∀ k, k ≤ l.length → ∀ x ∈ chosenTo l b k, x ∈ chosenTo l d k
  | 0, _, x, hx => by simp [chosenTo] at hx
  | k + 1, hk, x, hx => by
    have hlt : k < l.length := by omega
    have ih := chosenTo_mono l h k (by omega)
    rw [chosenTo_succ l b hlt] at hx
    rw [chosenTo_succ l d hlt]
    by_cases hb : bitAt b k = true
    · rw [if_pos hb] at hx
      rw [if_pos (h k hlt hb)]
      rcases List.mem_append.1 hx with h1 | h1
      · exact List.mem_append_left _ (ih x h1)
      · exact List.mem_append_right _ h1
    · rw [if_neg hb] at hx
      split
      · exact List.mem_append_left _ (ih x hx)
      · exact ih x hx
theorem chosenOf_mono (s : Sheet) {b d : Int} (h : ∀ i, i < s.lost.length → bitAt b i = true → bitAt d i = true) : ∀ x ∈ chosenOf s b, x ∈ chosenOf s d :=
  chosenTo_mono s.lost h s.lost.length (Nat.le_refl _)
/-- Fewest, by the law. -/
theorem fewest_law {c : Code} {s : Sheet} (hf : fittingErr c s = 0) {b d : Int} (h : ∀ i, i < s.lost.length → bitAt b i = true → bitAt d i = true) :
    fewestAns c s = (fewestOf c s, 0) ∧ enoughAns c s (fewestOf c s) = (true, 0) ∧ enoughAns c s s.lost = (true, 0) ∧
    ∃ x y, enoughAns c s (chosenOf s b) = (x, 0) ∧ enoughAns c s (chosenOf s d) = (y, 0) ∧ (x = true → (fewestOf c s).length ≤ (chosenOf s b).length) ∧ (x = true → y = true) := by
  obtain ⟨_, hs, _⟩ := fittingErr_zero hf
  obtain ⟨h1, h2, h3⟩ := fewestOf_sub hs
  have s1 := chosenOf_sub s b
  have s2 := chosenOf_sub s d
  refine ⟨by unfold fewestAns; rw [if_neg (by simp [hf])], ?_, ?_, _, _, enoughAns_sub hf s1, enoughAns_sub hf s2, fun hx => h3 _ s1 hx, fun hx => enough_mono (chosenOf_mono s h) hx⟩
  · rw [enoughAns_sub hf h1, h2]
  · rw [enoughAns_sub hf (List.Sublist.refl _), enough_lost hs]
end Go.Bp
