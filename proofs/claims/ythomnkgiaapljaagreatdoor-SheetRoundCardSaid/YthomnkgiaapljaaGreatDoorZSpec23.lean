/- What Write returns is read back; what Read returns is written back. -/
import Derived.Test.YthomnkgiaapljaaGreatDoorM10
set_option maxRecDepth 100000
namespace Go.Bp
theorem dig3_all : ((List.range 1000).all fun n => decide ((digits n).length ≤ 3)) = true := by decide +kernel
theorem dig3 {n : Nat} (h : n < 1000) : (digits n).length ≤ 3 := by
  have := List.all_eq_true.1 dig3_all n (List.mem_range.2 h)
  simpa using this
theorem row_short {c : Code} {m : Int} {x : Line} (ho : c.Ok) (hm : m ≤ 12) (hx : LineOk c m x) : (rowText c x).length ≤ 25 := by
  unfold rowText nameAt
  have h4 := hx.no2; have h5 := hx.sum2
  have h1 := dig3 (n := x.no.toNat) (by omega)
  have h2 := dig3 (n := x.sum.toNat) (by omega)
  have h3 := (ho.nameSize (i := x.what.toNat) (by have := hx.what1; have := hx.what2; omega)).2
  simp only [List.length_append, List.length_singleton]
  have : (c.names.getD x.what.toNat ByteArray.empty).data.toList.length = (c.names.getD x.what.toNat ByteArray.empty).size := rfl
  omega
theorem text_short {c : Code} {s : Sheet} (ho : c.Ok) (hs : s.Ok c) : ∀ k, k ≤ s.kept.length → (textTo c s k).length ≤ 4 + 25 * k
  | 0, _ => by
    unfold textTo
    have h1 := hs.l2
    have := dig3 (n := s.lines.toNat) (by omega)
    simp; omega
  | k + 1, hk => by
    have hk' : k < s.kept.length := by omega
    have := text_short ho hs k (by omega)
    have := row_short ho hs.l2 (hs.line _ (List.getElem_mem hk'))
    rw [textTo_succ c s hk', List.length_append]; omega
theorem text_600 {c : Code} {s : Sheet} (ho : c.Ok) (hs : s.Ok c) : (textOf c s).length ≤ 600 := by
  have h := text_short ho hs s.kept.length (Nat.le_refl _)
  have hk := hs.keptLen
  have e : textTo c s s.kept.length = textOf c s := by unfold textTo textOf; rw [List.take_length]
  rw [e] at h; omega
theorem asked_err {c : Code} {s : Sheet} (h : s.asked c = 0) : c.check.2.2 = 0 ∧ s.err c = 0 := by
  unfold Sheet.asked at h
  split at h
  · rename_i h3; exact absurd h h3
  · rename_i h3; exact ⟨by simpa using h3, h⟩
theorem read_back {c : Code} {s : Sheet} (h : (writeAns c s).2 = 0) : readAns c (S (writeAns c s).1) = (s, 0) ∧ (writeAns c s).1.length ≤ 600 := by
  unfold writeAns at h ⊢
  by_cases ha : s.asked c = 0
  · rw [if_neg (by simp [ha])]
    obtain ⟨ho, hs⟩ := asked_zero ha
    obtain ⟨hc, he⟩ := asked_err ha
    have hl := text_600 ho hs
    refine ⟨?_, hl⟩
    unfold readAns
    have hr : readErr c (S (textOf c s)) = 0 := by unfold readErr; rw [if_neg (by simp [hc]), if_pos (by rw [S_size]; exact hl)]
    rw [if_neg (by simp [hr]), parsed_text ho hs, if_pos ⟨he, rfl⟩]
  · rw [if_pos ha] at h; exact absurd h ha
theorem read_bad {c : Code} {text : ByteArray} (h : (readAns c text).2 ≠ 0) : (readAns c text).1 = ⟨0, []⟩ := by
  unfold readAns at h ⊢
  split
  · rfl
  · rename_i h1
    rw [if_neg h1] at h
    split
    · rename_i h2; rw [if_pos h2] at h; exact absurd rfl h
    · rfl
theorem write_back {c : Code} {text : ByteArray} (h : (readAns c text).2 = 0) : (writeAns c (readAns c text).1).2 = 0 ∧ S (writeAns c (readAns c text).1).1 = text := by
  unfold readAns at h ⊢
  by_cases hr : readErr c text = 0
  · rw [if_neg (by simp [hr])] at h ⊢
    by_cases hp : (parsedOf c text).err c = 0 ∧ S (textOf c (parsedOf c text)) = text
    · rw [if_pos hp]
      have hc : c.check.2.2 = 0 := by
        unfold readErr at hr
        split at hr
        · rename_i h1; exact absurd hr h1
        · rename_i h1; simpa using h1
      have ha : (parsedOf c text).asked c = 0 := by unfold Sheet.asked; rw [if_neg (by simp [hc])]; exact hp.1
      unfold writeAns
      rw [if_neg (by simp [ha])]
      exact ⟨rfl, hp.2⟩
    · rw [if_neg hp] at h; cases h
  · rw [if_pos hr] at h; exact absurd h hr
end Go.Bp
