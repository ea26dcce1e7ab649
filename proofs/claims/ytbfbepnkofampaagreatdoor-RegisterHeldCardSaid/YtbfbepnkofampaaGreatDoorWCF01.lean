/- Chapter 11: contracts of functions of the program and of the reference, and plain laws (out of RgM RgV). No condition of its own. -/
import Derived.Test.YtbfbepnkofampaaGreatDoorP16
set_option maxRecDepth 100000
set_option linter.all false
section
namespace Go.Rg
open Go.Bp
namespace Sys
variable {s : Sys}
end Sys
theorem and_zero {a b n : Nat} (ha : a < 2 ^ n) : a &&& b = 0 ↔ ∀ k, k < n → ¬ (a.testBit k = true ∧ b.testBit k = true) := by
  constructor
  · intro h k _ ⟨h1, h2⟩
    have := congrArg (fun x => Nat.testBit x k) h
    simp only [Nat.testBit_and, h1, h2, Nat.zero_testBit] at this
    simp at this
  · intro h
    apply Nat.eq_of_testBit_eq
    intro k
    rw [Nat.testBit_and, Nat.zero_testBit]
    by_cases hk : k < n
    · have := h k hk
      cases h1 : a.testBit k <;> cases h2 : b.testBit k <;> simp_all
    · rw [Nat.testBit_lt_two_pow (Nat.lt_of_lt_of_le ha (Nat.pow_le_pow_right (by omega) (by omega)))]; rfl
end Go.Rg
end
section
namespace Go.Rg
open Go.Bp
theorem max_above {α : Type} {R : α → α → Bool} : ∀ (n : Nat) (L : List α) (x : α), (∀ a ∈ L, R a a = false) → (∀ a b c, a ∈ L → b ∈ L → c ∈ L → R a b = true → R b c = true → R a c = true) → x ∈ L → L.countP (R x) ≤ n → ∃ y ∈ L, (y = x ∨ R x y = true) ∧ ∀ z ∈ L, R y z = false
  | n, L, x, ir, tr, hx, hn => by
    by_cases h : ∃ z ∈ L, R x z = true
    · obtain ⟨z, hz, hxz⟩ := h
      have lt : L.countP (R z) < L.countP (R x) := by
        have : ∀ (M : List α), (∀ a ∈ M, a ∈ L) → M.countP (R z) ≤ M.countP (R x) ∧ (z ∈ M → M.countP (R z) < M.countP (R x)) := by
          intro M
          induction M with
          | nil => intro _; simp
          | cons m M ih =>
            intro hM
            have ih' := ih fun a ha => hM a (List.mem_cons_of_mem _ ha)
            have hm := hM m List.mem_cons_self
            have mono : R z m = true → R x m = true := fun h => tr x z m hx hz hm hxz h
            have e1 : ∀ b, (m :: M).countP (R b) = M.countP (R b) + if R b m = true then 1 else 0 := fun b => List.countP_cons
            rw [e1, e1]
            refine ⟨?_, fun hzm => ?_⟩
            · split
              · rename_i h1; rw [if_pos (mono h1)]; omega
              · split <;> omega
            · rcases List.mem_cons.1 hzm with rfl | hzm
              · rw [if_neg (by rw [ir z hz]; simp), if_pos hxz]; omega
              · have := ih'.2 hzm
                split
                · rename_i h1; rw [if_pos (mono h1)]; omega
                · split <;> omega
        exact (this L fun _ h => h).2 hz
      cases n with
      | zero => omega
      | succ n =>
        obtain ⟨y, hy, h1, h2⟩ := max_above n L z ir tr hz (by omega)
        refine ⟨y, hy, .inr ?_, h2⟩
        rcases h1 with rfl | h1
        · exact hxz
        · exact tr x z y hx hz hy hxz h1
    · exact ⟨x, hx, .inl rfl, fun z hz => by
        cases e : R x z
        · rfl
        · exact absurd ⟨z, hz, e⟩ h⟩
namespace Sys
variable {s : Sys}
theorem Ok.anti (h : s.Ok) {a b : Int} (ha : 0 ≤ a ∧ a < s.classes.length) (hb : 0 ≤ b ∧ b < s.classes.length) (h1 : s.covers a b = true) (h2 : s.covers b a = true) : a = b := by
  have r1 := (covers_iff h.incl ha hb).1 h1
  have r2 := (covers_iff h.incl hb ha).1 h2
  have key : ∀ {x y : Int}, s.Reach x y → x = y ∨ ∃ k ∈ (s.at_ x).incl, s.Reach k y := by
    intro x y r
    induction r with
    | refl => exact .inl rfl
    | @step u v ru hv ih =>
      rcases ih with e | ⟨k, hk, hr⟩
      · rw [e]; exact .inr ⟨v, hv, .refl _⟩
      · exact .inr ⟨k, hk, .step hr hv⟩
  rcases key r1 with e | ⟨k, hk, hr⟩
  · exact e
  · exfalso
    have hi := h.incl a k hk
    have := h.loop a.toNat (by omega) k (by rw [show ((a.toNat : Nat) : Int) = a by omega]; exact hk)
    rw [show ((a.toNat : Nat) : Int) = a by omega] at this
    rw [(covers_iff h.incl hi ha).2 (hr.trans r2)] at this
    cases this
theorem allow_one (r : Right) (c f : Int) : s.allow [r] c f = s.one r c f := by simp [allow, one]
theorem weaker_iff {a b : Right} : s.weaker a b = true ↔ a ≠ b ∧ s.covers b.cls a.cls = true ∧ b.codes.toNat &&& a.codes.toNat = b.codes.toNat := by
  unfold weaker; simp [Bool.and_eq_true, and_assoc]
theorem weaker_trans (h : s.Ok) {a b c : Right} (ha : s.rightErr a = 0) (hb : s.rightErr b = 0) (hc : s.rightErr c = 0) (h1 : s.weaker a b = true) (h2 : s.weaker b c = true) : s.weaker a c = true := by
  obtain ⟨n1, c1, k1⟩ := weaker_iff.1 h1
  obtain ⟨n2, c2, k2⟩ := weaker_iff.1 h2
  have a1 := right_in ha; have a2 := right_in hb; have a3 := right_in hc
  have q1 := (covers_iff h.incl a2.1 a1.1).1 c1
  have q2 := (covers_iff h.incl a3.1 a2.1).1 c2
  have q3 := (covers_iff h.incl a3.1 a1.1).2 (q2.trans q1)
  refine weaker_iff.2 ⟨fun e => ?_, q3, ?_⟩
  · subst e
    have e1 := h.anti a1.1 a2.1 c2 c1
    have e2 : a.codes.toNat = b.codes.toNat := by rw [← k2, Nat.and_comm]; exact k1
    apply n1
    cases a; cases b
    simp only at e1 e2 a1 a2
    rw [Right.mk.injEq]
    exact ⟨e1, by omega⟩
  · rw [← k2, Nat.and_assoc, k1]
theorem one_weaker (h : s.Ok) {a b : Right} {c : Int} (ha : s.rightErr a = 0) (hb : s.rightErr b = 0) (hc : 0 ≤ c ∧ c < s.classes.length) (hw : s.weaker a b = true) {f : Int} (h1 : s.one a c f = true) : s.one b c f = true := by
  obtain ⟨_, c1, k1⟩ := weaker_iff.1 hw
  unfold one at h1 ⊢
  simp only [Bool.and_eq_true, decide_eq_true_eq] at h1 ⊢
  have a1 := right_in ha; have a2 := right_in hb
  refine ⟨(covers_iff h.incl a2.1 hc).2 (((covers_iff h.incl a2.1 a1.1).1 c1).trans ((covers_iff h.incl a1.1 hc).1 h1.1)), ?_⟩
  rw [← k1, Nat.and_assoc, h1.2, Nat.and_zero]
theorem allow_least (h : s.Ok) {l : List Right} (hl : ∀ r ∈ l, s.rightErr r = 0) {c f : Int} (hc : 0 ≤ c ∧ c < s.classes.length) : s.allow (s.least l) c f = s.allow l c f := by
  rw [Bool.eq_iff_iff, allow_any, allow_any, List.any_eq_true, List.any_eq_true]
  have ho : ∀ y, y ∈ s.ordered l ↔ y ∈ l := ordered_mem hl
  constructor
  · rintro ⟨y, hy, h1⟩
    exact ⟨y, (ho y).1 (List.mem_filter.1 hy).1, h1⟩
  · rintro ⟨x, hx, h1⟩
    obtain ⟨y, hy, h2, h3⟩ := max_above (R := s.weaker) ((s.ordered l).countP (s.weaker x)) (s.ordered l) x (fun a _ => by
      cases e : s.weaker a a
      · rfl
      · exact absurd rfl (weaker_iff.1 e).1) (fun a b c ha hb hc => weaker_trans h (hl a ((ho a).1 ha)) (hl b ((ho b).1 hb)) (hl c ((ho c).1 hc))) ((ho x).2 hx) (Nat.le_refl _)
    refine ⟨y, ?_, ?_⟩
    · unfold least
      refine List.mem_filter.2 ⟨hy, ?_⟩
      rw [List.all_eq_true]
      intro r hr
      rw [h3 r hr]; rfl
    · rcases h2 with rfl | h2
      · exact h1
      · exact one_weaker h (hl x hx) (hl y ((ho y).1 hy)) hc h2 h1
end Sys
namespace Rules
variable {r : Rules}
theorem max_ge : ∀ (l : List Int) (a : Int), a ≤ l.foldl max a
  | [], a => Int.le_refl a
  | x :: l, a => by rw [List.foldl_cons]; have := max_ge l (max a x); omega
theorem whyG_0 {g : List Grant} {d : Drive} : r.whyG g d = 0 ↔ r.sys.allow (heldL g d.day) d.cls d.features = true := by
  rw [Sys.allow_any]
  unfold heldL whyG
  rw [List.any_map, List.any_eq_true]
  simp only [Function.comp_def]
  constructor
  · intro h
    split at h
    · rename_i h0
      obtain ⟨x, hx, hx0⟩ := List.mem_map.1 h0
      obtain ⟨hx, h1⟩ := List.mem_filter.1 hx
      simp only [Bool.and_eq_true, decide_eq_true_eq, Sys.allow_one] at h1
      refine ⟨x, List.mem_filter.2 ⟨hx, ?_⟩, h1.2⟩
      unfold against at hx0
      unfold holds
      simp only [Bool.and_eq_true, decide_eq_true_eq]
      split at hx0
      · omega
      · split at hx0 <;> omega
    · have := max_ge (((g.filter fun g => decide (g.day ≤ d.day) && r.sys.allow [g.right] d.cls d.features).map (against d))) 3
      omega
  · rintro ⟨x, hx, h1⟩
    obtain ⟨hx, h2⟩ := List.mem_filter.1 hx
    unfold holds at h2
    simp only [Bool.and_eq_true, decide_eq_true_eq] at h2
    rw [if_pos]
    refine List.mem_map.2 ⟨x, List.mem_filter.2 ⟨hx, ?_⟩, ?_⟩
    · simp only [Bool.and_eq_true, decide_eq_true_eq, Sys.allow_one]; exact ⟨h2.1.1, h1⟩
    · unfold against; rw [if_neg (by omega), if_neg (by omega)]
end Rules
end Go.Rg
end
