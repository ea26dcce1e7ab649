/- Chapter 11: contracts of functions of the program and of the reference, and plain laws (out of RgY). No condition of its own. -/
import Derived.Test.YtbfbepnkofampaaGreatDoorWAB01
import Derived.Test.YtbfbepnkofampaaGreatDoorWBCD01
import Derived.Test.YtbfbepnkofampaaGreatDoorWBCDE01
set_option maxRecDepth 100000
set_option linter.all false
section
namespace Go.Rg
open Go.Bp
theorem cut_sorted {l : List Event} (hs : l.Pairwise fun a b => a.day ≤ b.day) (D : Int) : l = (l.filter fun x => decide (x.day ≤ D)) ++ l.filter fun x => !decide (x.day ≤ D) := by
  induction l with
  | nil => rfl
  | cons x l ih =>
    rw [List.pairwise_cons] at hs
    by_cases h : x.day ≤ D
    · rw [List.filter_cons, if_pos (by simpa using h), List.filter_cons, if_neg (by simp [h]), List.cons_append, ← ih hs.2]
    · have e : l.filter (fun x => decide (x.day ≤ D)) = [] := List.filter_eq_nil_iff.2 fun y hy => by have := hs.1 y hy; simp; omega
      rw [List.filter_cons, if_neg (by simp [h]), e, List.filter_cons, if_pos (by simp [h]), List.nil_append]
      congr 1
      exact (List.filter_eq_self.2 fun y hy => by have := hs.1 y hy; simp; omega).symm
theorem foldl_same {α β : Type} {f g : β → α → β} : ∀ (l : List α) (o : β), (∀ o, ∀ x ∈ l, f o x = g o x) → l.foldl f o = l.foldl g o
  | [], _, _ => rfl
  | x :: l, o, h => by rw [List.foldl_cons, List.foldl_cons, h o x (by simp)]; exact foldl_same l _ fun o y hy => h o y (by simp [hy])
namespace Rules
variable {r : Rules} {D : Int} {a b : List Event}
theorem offDays_app (h : Cut D a b) : offDays (a ++ b) = offDays a ++ offDays b := by
  have ha : ∀ d ∈ offDays a, d ≤ D := fun d hd => by obtain ⟨x, hx, _, rfl⟩ := offDays_mem.1 hd; exact h.le x hx
  have hb : ∀ d ∈ offDays b, D < d := fun d hd => by obtain ⟨x, hx, _, rfl⟩ := offDays_mem.1 hd; exact h.gt x hx
  refine unique_sorted (lt := fun a b : Int => a < b) (fun a => by omega) (fun {a b c} h k => by omega) (sortI_sorted _) ?_ fun x => ?_
  · exact List.pairwise_append.2 ⟨sortI_sorted _, sortI_sorted _, fun x hx y hy => by have := ha x hx; have := hb y hy; omega⟩
  · rw [List.mem_append, offDays_mem, offDays_mem, offDays_mem]
    constructor
    · rintro ⟨z, hz, h1⟩
      rcases List.mem_append.1 hz with hz | hz
      · exact .inl ⟨z, hz, h1⟩
      · exact .inr ⟨z, hz, h1⟩
    · rintro (⟨z, hz, h1⟩ | ⟨z, hz, h1⟩)
      · exact ⟨z, List.mem_append_left _ hz, h1⟩
      · exact ⟨z, List.mem_append_right _ hz, h1⟩
theorem offs_app (h : Cut D a b) : ∃ t bs, (r.offs (a ++ b)).taken = (r.offs a).taken ++ t ∧ (∀ q ∈ t, D < q.2) ∧ (r.offs (a ++ b)).bans = (r.offs a).bans ++ bs ∧ ∀ s ∈ bs, D < s.lo := by
  unfold offs
  rw [offDays_app h, List.foldl_append]
  have e : (offDays a).foldl (r.stepOff (a ++ b)) ⟨[], [], []⟩ = (offDays a).foldl (r.stepOff a) ⟨[], [], []⟩ := by
    refine foldl_same _ _ fun o d hd => ?_
    obtain ⟨z, hz, _, rfl⟩ := offDays_mem.1 hd
    have hzd := h.le z hz
    have : ptsOn (a ++ b) z.day = ptsOn a z.day := by
      unfold ptsOn
      rw [List.filter_append]
      have : b.filter (fun x => isOff x && decide (x.day = z.day)) = [] := List.filter_eq_nil_iff.2 fun y hy => by have := h.gt y hy; simp; omega
      rw [this, List.append_nil]
    unfold stepOff liveAt; rw [this]
  rw [e]
  exact offs_later _ _ fun d hd => by obtain ⟨x, hx, _, rfl⟩ := offDays_mem.1 hd; exact h.gt x hx
theorem banned_app (h : Cut D a b) {d : Int} (hd : d ≤ D) : r.bannedBy (a ++ b) d = r.bannedBy a d := by
  obtain ⟨t, bs, _, _, h3, h4⟩ := offs_app (r := r) h
  have e1 : hasDay (courts (a ++ b)) d = hasDay (courts a) d := by
    have : courts (a ++ b) = courts a ++ courts b := by unfold courts; rw [List.filter_append, List.map_append]
    rw [this, has_app]
    have : hasDay (courts b) d = false := by
      cases e : hasDay (courts b) d
      · rfl
      · obtain ⟨s, hs, h1⟩ := has_mem.1 e
        unfold courts at hs
        obtain ⟨x, hx, rfl⟩ := List.mem_map.1 hs
        have := h.gt x (List.mem_filter.1 hx).1
        simp only at h1; omega
    rw [this, Bool.or_false]
  have e2 : hasDay (r.offs (a ++ b)).bans d = hasDay (r.offs a).bans d := by
    rw [h3, has_app]
    have : hasDay bs d = false := by
      cases e : hasDay bs d
      · rfl
      · obtain ⟨s, hs, h1⟩ := has_mem.1 e
        have := h4 s hs; omega
    rw [this, Bool.or_false]
  unfold bannedBy; rw [e1, e2]
theorem renewed_same {l m : List Event} {y : Right} {day : Int} : ∀ (zs : List Event) (e : Int), (∀ z ∈ zs, r.bannedBy l z.day = r.bannedBy m z.day) → r.renewed l y day zs e = r.renewed m y day zs e
  | [], e, _ => rfl
  | z :: zs, e, h => by rw [renewed, renewed, h z (by simp)]; exact renewed_same zs _ fun w hw => h w (by simp [hw])
theorem renewed_later (ht : ∀ c, 0 ≤ (r.sys.at_ c).term ∧ (r.sys.at_ c).term ≤ 100) {l : List Event} {y : Right} {day : Int} : ∀ (zs : List Event) (e : Int), (∀ z ∈ zs, D < z.day ∧ 0 ≤ z.day ∧ z.day ≤ 40000) → ∀ d, d ≤ D → (d < r.renewed l y day zs e ↔ d < e)
  | [], e, _, d, _ => Iff.rfl
  | z :: zs, e, h, d, hd => by
    rw [renewed, renewed_later ht zs _ (fun w hw => h w (by simp [hw])) d hd]
    split
    · rename_i c
      have := h z (by simp)
      have := endOf_gt (r := r) (cls := z.cls) (day := z.day) (ht _) this.2.1 this.2.2
      omega
    · exact Iff.rfl
theorem reason_sim (h : Cut D a b) {born : Int} {o o' : List Grant} (hs : Sims D o o') {x : Event} {y : Right} (hx : x.day ≤ D) : r.reasonOf born (a ++ b) o x y = r.reasonOf born a o' x y := by
  have e : (o.any fun g => decide (g.day < x.day) && decide (g.reason = 0) && decide (x.day < g.end_) && r.sys.covers g.right.cls (r.sys.at_ y.cls).needs) = o'.any fun g => decide (g.day < x.day) && decide (g.reason = 0) && decide (x.day < g.end_) && r.sys.covers g.right.cls (r.sys.at_ y.cls).needs :=
    hs.any fun g g' hg => by
      obtain ⟨h1, h2, h3, h4⟩ := hg
      rw [h1, h2, h3]
      have := h4 x.day hx
      simp only [this]
  unfold reasonOf
  simp only [banned_app h hx, e]
theorem grants_sim (h : Cut D a b) (ht : ∀ c, 0 ≤ (r.sys.at_ c).term ∧ (r.sys.at_ c).term ≤ 100) (hb : ∀ z ∈ b, 0 ≤ z.day ∧ z.day ≤ 40000) {born : Int} : ∀ (xs : List Event) (o o' : List Grant), (∀ x ∈ xs, x ∈ a) → Sims D o o' → Sims D (r.grantsTo born (a ++ b) xs o) (r.grantsTo born a xs o')
  | [], _, _, _, hs => hs
  | x :: xs, o, o', hx, hs => by
    have hxa := hx x (by simp)
    have hxs : ∀ y ∈ xs, y ∈ a := fun y hy => hx y (by simp [hy])
    unfold grantsTo
    split
    · refine grants_sim h ht hb xs _ _ hxs (hs.snoc ⟨rfl, rfl, reason_sim h hs (h.le x hxa), fun d hd => ?_⟩)
      simp only
      rw [renewed_append, renewed_later (D := D) ht b _ (fun z hz => ⟨h.gt z hz, hb z hz⟩) d hd, renewed_same (m := a) a _ fun z hz => banned_app h (h.le z hz)]
    · exact grants_sim h ht hb xs _ _ hxs hs
theorem grants_later {born : Int} {l : List Event} : ∀ (xs : List Event) (o : List Grant), (∀ x ∈ xs, D < x.day) → ∃ n, r.grantsTo born l xs o = o ++ n ∧ ∀ g ∈ n, D < g.day
  | [], o, _ => ⟨[], by simp [grantsTo], by simp⟩
  | x :: xs, o, h => by
    have hx := h x (by simp)
    have hxs : ∀ y ∈ xs, D < y.day := fun y hy => h y (by simp [hy])
    unfold grantsTo
    split
    · obtain ⟨n, h1, h2⟩ := grants_later (born := born) (l := l) xs (o ++ [⟨x.day, r.rightOf x, r.reasonOf born l o x (r.rightOf x), r.renewed l (r.rightOf x) x.day l (r.endOf x.day (r.rightOf x).cls)⟩]) hxs
      rw [h1]
      refine ⟨_, by rw [List.append_assoc], fun g hg => ?_⟩
      rcases List.mem_append.1 hg with hg | hg
      · rw [List.mem_singleton] at hg; subst hg; exact hx
      · exact h2 g hg
    · exact grants_later xs o hxs
theorem later_app (h : Cut D a b) (ht : ∀ c, 0 ≤ (r.sys.at_ c).term ∧ (r.sys.at_ c).term ≤ 100) (hb : ∀ z ∈ b, 0 ≤ z.day ∧ z.day ≤ 40000) (born : Int) :
    heldL (r.grants born (a ++ b)) D = heldL (r.grants born a) D ∧ (∀ d : Drive, d.day = D → r.whyL born (a ++ b) d = r.whyL born a d) ∧ r.pointsOf (a ++ b) D = r.pointsOf a D := by
  obtain ⟨n, e1, e2⟩ := grants_later (r := r) (born := born) (l := a ++ b) b (r.grantsTo born (a ++ b) a []) h.gt
  have hs := grants_sim h ht hb (born := born) a [] [] (fun _ h => h) .nil
  have eg : r.grants born (a ++ b) = r.grantsTo born (a ++ b) a [] ++ n := by unfold grants; rw [grants_append, e1]
  refine ⟨?_, ?_, ?_⟩
  · rw [eg]
    unfold heldL
    rw [List.filter_append, show n.filter (holds D) = [] from List.filter_eq_nil_iff.2 fun g hg => by have := e2 g hg; unfold holds; simp; omega, List.append_nil]
    exact hs.map fun g g' hg => by
      obtain ⟨h1, h2, h3, h4⟩ := hg
      have := h4 D (Int.le_refl _)
      unfold holds
      rw [h1, h2, h3]
      simp only [this]
      exact ⟨trivial, fun _ => trivial⟩
  · intro d hd
    unfold whyL
    rw [banned_app h (by omega)]
    have key : ((r.grants born (a ++ b)).filter fun g => decide (g.day ≤ d.day) && r.sys.allow [g.right] d.cls d.features).map (against d) = ((r.grants born a).filter fun g => decide (g.day ≤ d.day) && r.sys.allow [g.right] d.cls d.features).map (against d) := by
      rw [eg, List.filter_append, show (n.filter fun g => decide (g.day ≤ d.day) && r.sys.allow [g.right] d.cls d.features) = [] from List.filter_eq_nil_iff.2 fun g hg => by have := e2 g hg; simp; omega, List.append_nil]
      exact hs.map fun g g' hg => by
        obtain ⟨h1, h2, h3, h4⟩ := hg
        rw [h1, h2]
        refine ⟨rfl, fun _ => ?_⟩
        have := h4 d.day (by omega)
        unfold against
        rw [h3]
        split
        · rfl
        · by_cases k : g.end_ ≤ d.day
          · rw [if_pos k, if_pos (by omega)]
          · rw [if_neg k, if_neg (by omega)]
    unfold whyG
    simp only [key]
  · obtain ⟨t, bs, h1, h2, _, _⟩ := offs_app (r := r) h
    have key : ∀ k, k ≠ 0 → r.sumOf (r.offs (a ++ b)) D (a ++ b) k = r.sumOf (r.offs a) D a k := by
      intro k hk
      unfold sumOf
      rw [List.filter_append, show (b.filter fun x => decide (r.stands (r.offs (a ++ b)) D x = k)) = [] from List.filter_eq_nil_iff.2 fun x hx => by
        have := h.gt x hx
        unfold stands
        rw [if_pos (.inr this)]
        simp; omega, List.append_nil]
      congr 2
      refine List.filter_congr fun x _ => ?_
      congr 2
      unfold stands
      rw [h1]
      have : ((whenIn ((r.offs a).taken ++ t) x.day).any fun w => decide (w ≤ D)) = (whenIn (r.offs a).taken x.day).any fun w => decide (w ≤ D) := by
        rw [whenIn_app]
        cases whenIn (r.offs a).taken x.day with
        | some w => rfl
        | none =>
          rw [Option.none_or]
          cases e : whenIn t x.day with
          | none => rfl
          | some w =>
            unfold whenIn at e
            cases hf : t.find? fun p => decide (p.1 = x.day) with
            | none => rw [hf] at e; cases e
            | some q =>
              rw [hf] at e
              injection e with e
              have h6 := h2 q (List.mem_of_find?_eq_some hf)
              have e : q.2 = w := e
              simp; omega
      rw [this]
    unfold pointsOf
    rw [key 1 (by decide), key 2 (by decide), key 3 (by decide)]
theorem later_law {p : Person} {z : Event} (h : r.personErr p = 0) (h' : r.personErr ⟨p.born, p.events ++ [z]⟩ = 0) {d : Drive} (hd : r.driveErr p d = 0) (hz : d.day < z.day) :
    r.pointsAns ⟨p.born, p.events ++ [z]⟩ d.day = r.pointsAns p d.day ∧ r.heldAns ⟨p.born, p.events ++ [z]⟩ d.day = r.heldAns p d.day ∧ r.whyAns ⟨p.born, p.events ++ [z]⟩ d = r.whyAns p d := by
  obtain ⟨d1, d2, d3, d4⟩ := drive_ok hd
  have ht := term_ok (ok_of (person_ok h).1)
  have hd' : r.driveErr ⟨p.born, p.events ++ [z]⟩ d = 0 := by unfold driveErr at hd ⊢; exact hd
  have hc := cut_sorted (sorted_days (l := p.events)) d.day
  have hc' := cut_sorted (sorted_days (l := p.events ++ [z])) d.day
  have ea : (sortE (p.events ++ [z])).filter (fun x => decide (x.day ≤ d.day)) = (sortE p.events).filter fun x => decide (x.day ≤ d.day) := sort_filter fun x hx => by
    rw [decide_eq_true_eq] at hx
    have : x ≠ z := fun e => by subst e; omega
    simp [this]
  rw [ea] at hc'
  have hb := event_days h; have hb' := event_days h'
  simp only at hb'
  obtain ⟨a, ha⟩ : ∃ a, (sortE p.events).filter (fun x => decide (x.day ≤ d.day)) = a := ⟨_, rfl⟩
  obtain ⟨b, hbb⟩ : ∃ b, (sortE p.events).filter (fun x => !decide (x.day ≤ d.day)) = b := ⟨_, rfl⟩
  obtain ⟨c, hcc⟩ : ∃ c, (sortE (p.events ++ [z])).filter (fun x => !decide (x.day ≤ d.day)) = c := ⟨_, rfl⟩
  have c1 : Cut d.day a b := ⟨fun x hx => by rw [← ha] at hx; simpa using (List.mem_filter.1 hx).2, fun x hx => by rw [← hbb] at hx; have := (List.mem_filter.1 hx).2; simp at this; omega⟩
  have c2 : Cut d.day a c := ⟨c1.le, fun x hx => by rw [← hcc] at hx; have := (List.mem_filter.1 hx).2; simp at this; omega⟩
  have b1 : ∀ z ∈ b, 0 ≤ z.day ∧ z.day ≤ 40000 := fun x hx => by rw [← hbb] at hx; exact hb x (List.mem_filter.1 hx).1
  have b2 : ∀ z ∈ c, 0 ≤ z.day ∧ z.day ≤ 40000 := fun x hx => by rw [← hcc] at hx; exact hb' x (List.mem_filter.1 hx).1
  rw [ha, hbb] at hc
  rw [ha, hcc] at hc'
  obtain ⟨k1, k2, k3⟩ := later_app c1 ht b1 p.born
  obtain ⟨m1, m2, m3⟩ := later_app c2 ht b2 p.born
  refine ⟨?_, ?_, ?_⟩
  · unfold pointsAns
    rw [if_neg (by simpa using h'), if_neg (by rw [inB_t.2 d1]; simp)]
    rw [if_neg (by simpa using h), if_neg (by rw [inB_t.2 d1]; simp)]
    rw [hc', hc, k3, m3]
  · rw [heldAns_of h' d1 d2, heldAns_of h d1 d2]
    simp only
    rw [hc', hc, banned_app c1 (Int.le_refl _), banned_app c2 (Int.le_refl _), k1, m1]
  · unfold whyAns
    rw [if_neg (by simpa using h'), if_neg (by simpa using hd'), if_neg (by simpa using h), if_neg (by simpa using hd)]
    simp only
    rw [hc', hc, k2 d rfl, m2 d rfl]
end Rules
end Go.Rg
end
