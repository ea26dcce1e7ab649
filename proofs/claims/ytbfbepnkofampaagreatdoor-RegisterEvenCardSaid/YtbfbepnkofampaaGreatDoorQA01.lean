/- Chapter 11: contracts of functions of the program and of the reference, and plain laws (out of RgI RgJ RgK RgT RgU RzE). No condition of its own. -/
import Derived.Test.YtbfbepnkofampaaGreatDoorP17
import Derived.Test.YtbfbepnkofampaaGreatDoorQAB01
set_option maxRecDepth 100000
set_option linter.all false
section
namespace Go.Rg
open Go.Bp
theorem sum_keys {α : Type} (f : α → Int) (p : α → Int) (ks : List α) : ∀ (L : List Int), L.Nodup → sumL ((ks.filter fun k => decide (f k ∈ L)).map p) = sumL (L.map fun d => sumL ((ks.filter fun k => decide (f k = d)).map p))
  | [], _ => by rw [show (ks.filter fun k => decide (f k ∈ ([] : List Int))) = [] from List.filter_eq_nil_iff.2 (by simp)]; rfl
  | d :: L, h => by
    have hd := (List.nodup_cons.1 h).1
    rw [List.map_cons, sumL_cons, ← sum_keys f p ks L (List.nodup_cons.1 h).2]
    clear h
    induction ks with
    | nil => rfl
    | cons k ks ih =>
      have c1 : decide (f k ∈ d :: L) = (decide (f k = d) || decide (f k ∈ L)) := by simp [List.mem_cons]
      simp only [List.filter_cons, c1]
      cases e : decide (f k = d) <;> cases e2 : decide (f k ∈ L)
      · simp only [Bool.or_self, Bool.false_eq_true, if_false]; exact ih
      · simp only [Bool.false_or, if_true, Bool.false_eq_true, if_false, List.map_cons, sumL_cons]; omega
      · simp only [Bool.true_or, if_true, Bool.false_eq_true, if_false, List.map_cons, sumL_cons]; omega
      · exact absurd (of_decide_eq_true e2) (by rw [of_decide_eq_true e]; exact hd)
end Go.Rg
end
section
namespace Go.Rg
open Go.Bp
theorem whenIn_some {t : List (Int × Int)} {d : Int} (h : ∃ q ∈ t, q.1 = d) : ∃ w, whenIn t d = some w ∧ (d, w) ∈ t := by
  unfold whenIn
  cases hf : t.find? fun p => decide (p.1 = d) with
  | none =>
    obtain ⟨q, hq, e⟩ := h
    have := List.find?_eq_none.1 hf q hq
    simp [e] at this
  | some q =>
    have h1 := List.find?_some hf
    have h2 := List.mem_of_find?_eq_some hf
    simp only [decide_eq_true_eq] at h1
    exact ⟨q.2, rfl, by rw [← h1]; exact h2⟩
section
variable {r : Rules} {l : List Event} {ds rest : List Int} {D : Int} {o : Off}
end
end Go.Rg
end
section
namespace Go.Rg
open Go.Bp
theorem ev_mem {l : List Event} {k : Nat} (h : k < l.length) : evAt l k ∈ l := by unfold evAt; simp [List.getD, h]
end Go.Rg
end
section
namespace Go.Rg
open Go.Bp
namespace Rules
variable {r : Rules}
theorem sort_same {l m : List Event} (h : ∀ x, x ∈ l ↔ x ∈ m) : sortE l = sortE m := sortE_eq (sortE_sorted l) (fun y => by rw [sortE_mem]; exact h y)
end Rules
end Go.Rg
end
section
namespace Go.Rg
open Go.Bp
theorem sumL_nonneg : ∀ {l : List Int}, (∀ x ∈ l, 0 ≤ x) → 0 ≤ sumL l
  | [], _ => by rw [sumL_nil]; omega
  | x :: l, h => by
    rw [sumL_cons]
    have := h x List.mem_cons_self
    have := sumL_nonneg (l := l) fun y hy => h y (List.mem_cons_of_mem _ hy)
    omega
theorem sumL_perm {l m : List Int} (h : l.Perm m) : sumL l = sumL m := by
  induction h with
  | nil => rfl
  | cons x _ ih => rw [sumL_cons, sumL_cons, ih]
  | swap x y l => rw [sumL_cons, sumL_cons, sumL_cons, sumL_cons]; omega
  | trans _ _ h1 h2 => rw [h1, h2]
theorem sum_stands {α : Type} (f : α → Nat) (q : α → Bool) (p : α → Int) : ∀ l : List α, (∀ x ∈ l, q x = true ↔ f x = 1 ∨ f x = 2 ∨ f x = 3) →
    sumL ((l.filter q).map p) = sumL ((l.filter fun x => decide (f x = 3)).map p) + sumL ((l.filter fun x => decide (f x = 2)).map p) + sumL ((l.filter fun x => decide (f x = 1)).map p)
  | [], _ => by simp [sumL_nil]
  | x :: l, h => by
    have ih := sum_stands f q p l fun y hy => h y (List.mem_cons_of_mem _ hy)
    have hx := h x List.mem_cons_self
    by_cases h1 : f x = 1
    · simp [hx.2 (.inl h1), h1, sumL_cons, ih]; omega
    · by_cases h2 : f x = 2
      · simp [hx.2 (.inr (.inl h2)), h2, sumL_cons, ih]; omega
      · by_cases h3 : f x = 3
        · simp [hx.2 (.inr (.inr h3)), h3, sumL_cons, ih]; omega
        · have : q x = false := by
            cases e : q x
            · rfl
            · have := hx.1 e; omega
          simp [this, h1, h2, h3, ih]
namespace Rules
variable {r : Rules}
theorem points_even (o : Off) (day : Int) (l : List Event) :
    sumL ((l.filter fun x => isOff x && decide (x.day ≤ day)).map fun x => x.points) = r.sumOf o day l 3 + r.sumOf o day l 2 + r.sumOf o day l 1 := by
  unfold sumOf
  refine sum_stands (r.stands o day) _ _ l fun x _ => ?_
  unfold stands
  rw [Bool.and_eq_true, decide_eq_true_eq]
  split
  · rename_i h
    constructor
    · rintro ⟨h1, h2⟩
      rcases h with h | h
      · rw [h] at h1; cases h1
      · omega
    · omega
  · rename_i h
    have h1 : isOff x = true := by
      cases e : isOff x
      · exact absurd (.inl e) h
      · rfl
    have h2 : x.day ≤ day := by
      rcases Int.lt_or_le day x.day with h' | h'
      · exact absurd (.inr h') h
      · exact h'
    refine ⟨fun _ => ?_, fun _ => ⟨h1, h2⟩⟩
    split
    · exact .inl rfl
    · split
      · exact .inr (.inl rfl)
      · exact .inr (.inr rfl)
end Rules
end Go.Rg
end
section
namespace Go.Rg
open Go.Bp
def evenTo (l : List Event) (day : Int) : Nat → Int
  | 0 => 0
  | k + 1 => evenTo l day k + if isOff (evAt l k) = true ∧ (evAt l k).day ≤ day ∧ evAt l k ∉ l.take k then (evAt l k).points else 0
theorem evAt_app {l : List Event} {x : Event} {k : Nat} (h : k < l.length) : evAt (l ++ [x]) k = evAt l k := by
  unfold evAt; simp only [List.getD]; rw [List.getElem?_append_left h]
theorem evAt_last (l : List Event) (x : Event) : evAt (l ++ [x]) l.length = x := by
  unfold evAt; simp [List.getD]
theorem evenTo_app (l : List Event) (x : Event) (day : Int) : ∀ k, k ≤ l.length → evenTo (l ++ [x]) day k = evenTo l day k
  | 0, _ => rfl
  | k + 1, h => by
    unfold evenTo
    rw [evenTo_app l x day k (by omega), evAt_app (by omega), List.take_append_of_le_length (by omega)]
theorem sort_nodup (l : List Event) : (sortE l).Nodup := (sortE_sorted l).imp fun {a b} h e => by subst e; exact ltE_irrefl a h
theorem sort_new {l : List Event} {x : Event} (h : x ∉ l) : (sortE (l ++ [x])).Perm (x :: sortE l) := by
  refine (List.perm_ext_iff_of_nodup (sort_nodup _) (List.nodup_cons.2 ⟨by rw [sortE_mem]; exact h, sort_nodup _⟩)).2 fun y => ?_
  rw [sortE_mem, List.mem_append, List.mem_singleton, List.mem_cons, sortE_mem]
  exact Or.comm
theorem sort_old {l : List Event} {x : Event} (h : x ∈ l) : sortE (l ++ [x]) = sortE l := Rules.sort_same fun y => by
  rw [List.mem_append, List.mem_singleton]
  exact ⟨fun h' => h'.elim id fun e => e ▸ h, .inl⟩
theorem even_sum (day : Int) : ∀ l : List Event, evenTo l day l.length = sumL (((sortE l).filter fun x => isOff x && decide (x.day ≤ day)).map fun x => x.points) := by
  intro l
  generalize hn : l.length = n
  induction n generalizing l with
  | zero =>
    have : l = [] := List.length_eq_zero_iff.1 hn
    subst this; rfl
  | succ n ih =>
    rcases List.eq_nil_or_concat l with rfl | ⟨q, x, e⟩
    · simp at hn
    · rw [List.concat_eq_append] at e
      subst e
      have hq : q.length = n := by simpa using hn
      have h1 := ih q hq
      unfold evenTo
      rw [← hq, evenTo_app _ _ _ _ (Nat.le_refl _), hq, h1, ← hq, evAt_last, List.take_left]
      by_cases hx : x ∈ q
      · rw [if_neg (by simp [hx]), sort_old hx]; omega
      · rw [sumL_perm (((sort_new hx).filter _).map _), List.filter_cons]
        by_cases h2 : (isOff x && decide (x.day ≤ day)) = true
        · rw [if_pos h2, List.map_cons, sumL_cons]
          simp only [Bool.and_eq_true, decide_eq_true_eq] at h2
          rw [if_pos ⟨h2.1, h2.2, hx⟩]; omega
        · rw [if_neg h2]
          simp only [Bool.and_eq_true, decide_eq_true_eq] at h2
          rw [if_neg (fun h3 => h2 ⟨h3.1, h3.2.1⟩)]; omega
theorem sumL_sub {α : Type} (f : α → Int) (p q : α → Bool) : ∀ l : List α, (∀ x ∈ l, p x = true → q x = true) → (∀ x ∈ l, q x = true → 0 ≤ f x) → sumL ((l.filter p).map f) ≤ sumL ((l.filter q).map f)
  | [], _, _ => by simp
  | x :: l, h1, h2 => by
    have ih := sumL_sub f p q l (fun y hy => h1 y (by simp [hy])) (fun y hy => h2 y (by simp [hy]))
    have a1 := h1 x (by simp)
    have a2 := h2 x (by simp)
    rw [List.filter_cons, List.filter_cons]
    cases hp : p x <;> cases hq : q x
    · simpa using ih
    · have := a2 hq
      simp only [Bool.false_eq_true, if_false, if_true, List.map_cons, sumL_cons]; omega
    · have := a1 hp; rw [hq] at this; cases this
    · simp only [if_true, List.map_cons, sumL_cons]; omega
namespace Rules
variable {r : Rules}
theorem live_limit (hl : 1 ≤ r.limit) (l : List Event) : ∀ (ds : List Int) (o : Off), sumL (o.live.map fun p => p.2) < r.limit → sumL ((ds.foldl (r.stepOff l) o).live.map fun p => p.2) < r.limit
  | [], o, h => h
  | d :: ds, o, h => by
    rw [List.foldl_cons]
    refine live_limit hl l ds _ ?_
    unfold stepOff
    split
    · assumption
    · show sumL [] < _
      rw [sumL_nil]; omega
theorem offs_ok (hf : 1 ≤ r.fall) {l : List Event} : ∀ (ds pre rest : List Int) (o : Off), offDays l = pre ++ ds ++ rest → OffOk r l pre o → OffOk r l (pre ++ ds) (ds.foldl (r.stepOff l) o)
  | [], pre, rest, o, h, ok => by simpa using ok
  | d :: ds, pre, rest, o, h, ok => by
    have := offs_ok hf ds (pre ++ [d]) rest (r.stepOff l o d) (by rw [h]; simp) (step_ok (rest := ds ++ rest) (by rw [h]; simp) hf ok)
    rw [List.foldl_cons]
    simpa using this
theorem counts_lt (hl : 1 ≤ r.limit) (hf : 1 ≤ r.fall) {l : List Event} (hp : ∀ x ∈ l, isOff x = true → 0 ≤ x.points) (day : Int) : r.sumOf (r.offs l) day l 3 < r.limit := by
  have hso := sortI_sorted ((l.filter isOff).map fun x => x.day)
  obtain ⟨a, b, hab, ha, hb⟩ : ∃ a b, offDays l = a ++ b ∧ (∀ d ∈ a, d ≤ day) ∧ ∀ d ∈ b, day < d := by
    refine ⟨(offDays l).filter fun d => decide (d ≤ day), (offDays l).filter fun d => !decide (d ≤ day), ?_, fun d hd => by simpa using (List.mem_filter.1 hd).2, fun d hd => by
      have := (List.mem_filter.1 hd).2
      simp only [Bool.not_eq_true', decide_eq_false_iff_not] at this; omega⟩
    have : ∀ m : List Int, m.Pairwise (· < ·) → m = (m.filter fun d => decide (d ≤ day)) ++ m.filter fun d => !decide (d ≤ day) := by
      intro m
      induction m with
      | nil => intro _; rfl
      | cons d m ih =>
        intro h
        obtain ⟨h1, h2⟩ := List.pairwise_cons.1 h
        rw [List.filter_cons, List.filter_cons]
        by_cases hd : d ≤ day
        · simp only [hd, decide_true, if_true, Bool.not_true, Bool.false_eq_true, if_false, List.cons_append]
          rw [← ih h2]
        · have e1 : m.filter (fun d => decide (d ≤ day)) = [] := List.filter_eq_nil_iff.2 fun x hx => by have := h1 x hx; simp; omega
          have e2 : m.filter (fun d => !decide (d ≤ day)) = m := List.filter_eq_self.2 fun x hx => by have := h1 x hx; simp; omega
          simp [hd, e1, e2]
    exact this _ hso
  obtain ⟨o, ho⟩ : ∃ o, a.foldl (r.stepOff l) ⟨[], [], []⟩ = o := ⟨_, rfl⟩
  have hok : OffOk r l a o := by
    have := offs_ok hf a [] b ⟨[], [], []⟩ (by simpa using hab) (offOk_nil r l)
    rw [ho] at this; simpa using this
  have hlim : sumL (o.live.map fun p => p.2) < r.limit := by
    rw [← ho]; exact live_limit hl l a _ (by show sumL [] < _; rw [sumL_nil]; omega)
  obtain ⟨t, bs, htk, hlt, _, _⟩ := offs_later (r := r) (l := l) (D := day) b o hb
  have hO : r.offs l = b.foldl (r.stepOff l) o := by unfold offs; rw [hab, List.foldl_append, ho]
  obtain ⟨K, hK⟩ : ∃ K, o.live.map (fun p => p.1) = K := ⟨_, rfl⟩
  have h3 : ∀ x ∈ l, decide (r.stands (r.offs l) day x = 3) = true → (isOff x && decide (x.day ∈ K)) = true := by
    intro x hx h
    rw [decide_eq_true_eq] at h
    unfold stands at h
    split at h
    · cases h
    rename_i n1
    split at h
    · cases h
    rename_i n2
    split at h
    · cases h
    rename_i n3
    rw [not_or] at n1
    have ho1 : isOff x = true := by simpa using n1.1
    rw [ho1, Bool.true_and, decide_eq_true_eq, ← hK, List.mem_map]
    have hm : x.day ∈ offDays l := offDays_mem.2 ⟨x, hx, ho1, rfl⟩
    rw [hab] at hm
    have hma : x.day ∈ a := by
      rcases List.mem_append.1 hm with h | h
      · exact h
      · have := hb _ h; omega
    rcases hok.each _ hma with h | ⟨q, hq, hqe⟩ | ⟨e, he, hfe⟩
    · exact h
    · exfalso
      apply n2
      rw [hO, htk, whenIn_app]
      obtain ⟨w, hw, hwm⟩ := whenIn_some (t := o.taken) (d := x.day) ⟨q, hq, hqe⟩
      rw [hw]
      have := ha _ (hok.taken _ hwm).2
      simp; exact this
    · have := ha _ he; omega
  have hkn : K.Nodup := by rw [← hK]; exact hok.nodup
  have e1 := sumL_sub (fun x : Event => x.points) (fun x => decide (r.stands (r.offs l) day x = 3)) (fun x => isOff x && decide (x.day ∈ K)) l h3 (fun x hx h => by
    simp only [Bool.and_eq_true] at h; exact hp x hx h.1)
  have e2 : sumL ((l.filter fun x => isOff x && decide (x.day ∈ K)).map fun x => x.points) = sumL (o.live.map fun p => p.2) := by
    have h4 : (l.filter fun x => isOff x && decide (x.day ∈ K)) = (l.filter isOff).filter fun x => decide (x.day ∈ K) := by rw [List.filter_filter]; congr 1; funext x; rw [Bool.and_comm]
    rw [h4, sum_keys (fun x : Event => x.day) (fun x => x.points) (l.filter isOff) K hkn]
    have h5 : o.live.map (fun p => p.2) = K.map (ptsOn l) := by
      rw [← hK, List.map_map]
      exact List.map_congr_left fun p hp => (hok.live p hp).2
    rw [h5]
    congr 1
    refine List.map_congr_left fun d _ => ?_
    unfold ptsOn
    rw [List.filter_filter]
    congr 2
    congr 1
    funext x
    rw [Bool.and_comm]
  unfold sumOf
  omega
theorem sum_ge (o : Off) (day : Int) {l : List Event} (hp : ∀ x ∈ l, isOff x = true → 0 ≤ x.points) {n : Nat} (hn : n ≠ 0) : 0 ≤ r.sumOf o day l n := by
  unfold sumOf
  refine sumL_nonneg fun y hy => ?_
  obtain ⟨x, hx, rfl⟩ := List.mem_map.1 hy
  obtain ⟨hx, h⟩ := List.mem_filter.1 hx
  rw [decide_eq_true_eq] at h
  refine hp x hx ?_
  unfold stands at h
  split at h
  · exact absurd h.symm hn
  · rename_i n1; rw [not_or] at n1; simpa using n1.1
theorem even_law {p : Person} (h : r.personErr p = 0) {day : Int} (hd : 0 ≤ day ∧ day ≤ 40000) : ∃ s : Points, r.pointsAns p day = (s, 0) ∧ 0 ≤ s.counts ∧ 0 ≤ s.fallen ∧ 0 ≤ s.taken ∧ evenTo p.events day p.events.length = s.counts + s.fallen + s.taken ∧ s.counts < r.limit := by
  obtain ⟨h1, h2, h3, h4⟩ := person_ok h
  have ho := ok_of h1
  have hp : ∀ x ∈ sortE p.events, isOff x = true → 0 ≤ x.points := fun x hx hox => by
    have := h4 x ((sortE_mem _ _).1 hx)
    unfold isOff at hox
    rw [decide_eq_true_eq] at hox
    obtain ⟨_, ⟨y, m, e, _⟩ | ⟨i, e, _⟩ | ⟨i, e, _⟩ | ⟨n, e, h5, h6⟩ | ⟨u, e, _⟩⟩ := event_shape this
    · rw [e] at hox; cases hox
    · rw [e] at hox; cases hox
    · rw [e] at hox; cases hox
    · rw [e]; simp only; omega
    · rw [e] at hox; cases hox
  refine ⟨r.pointsOf (sortE p.events) day, ?_, sum_ge _ _ hp (by decide), sum_ge _ _ hp (by decide), sum_ge _ _ hp (by decide), ?_, ?_⟩
  · unfold pointsAns
    rw [if_neg (by simpa using h), if_neg (by rw [inB_t.2 hd]; simp)]
  · rw [even_sum, points_even (r := r) (r.offs (sortE p.events)) day (sortE p.events)]; rfl
  · exact counts_lt ho.limit.1 ho.fall.1 hp day
end Rules
end Go.Rg
end
