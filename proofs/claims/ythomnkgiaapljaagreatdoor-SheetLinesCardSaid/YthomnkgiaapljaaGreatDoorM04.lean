/- Texts Spec11 Spec12 Held2 R17 Spec13 R18 of the proof, merged: contracts of functions of chapter 10, of the program and of the reference, and plain laws. -/
import Derived.Test.YthomnkgiaapljaaGreatDoorM03
section
/- Plain Lean: the search that gives up early finds the tests that fit, in order. -/
namespace Go.Bp
open Go.RowKit
theorem flatMap_same {α β : Type} {f g : α → List β} : ∀ {l : List α}, (∀ t ∈ l, f t = g t) → l.flatMap f = l.flatMap g
  | [], _ => rfl
  | x :: l, h => by rw [List.flatMap_cons, List.flatMap_cons, h x (by simp), flatMap_same fun t ht => h t (by simp [ht])]
theorem flatMap_nothing {α β : Type} {f : α → List β} : ∀ {l : List α}, (∀ t ∈ l, f t = []) → l.flatMap f = []
  | [], _ => rfl
  | x :: l, h => by rw [List.flatMap_cons, h x (by simp), flatMap_nothing fun t ht => h t (by simp [ht])]; rfl
theorem filter_flat {α β : Type} {f : α → List β} {p : β → Bool} : ∀ l : List α, (l.flatMap f).filter p = l.flatMap fun x => (f x).filter p
  | [] => rfl
  | x :: l => by rw [List.flatMap_cons, List.flatMap_cons, List.filter_append, filter_flat l]
theorem flat_flat {α β γ : Type} {f : α → List β} {g : β → List γ} : ∀ l : List α, (l.flatMap f).flatMap g = l.flatMap fun x => (f x).flatMap g
  | [] => rfl
  | x :: l => by rw [List.flatMap_cons, List.flatMap_cons, List.flatMap_append, flat_flat l]
theorem flat_map {α β γ : Type} {f : α → β} {g : β → List γ} : ∀ l : List α, (l.map f).flatMap g = l.flatMap fun x => g (f x)
  | [] => rfl
  | x :: l => by rw [List.map_cons, List.flatMap_cons, List.flatMap_cons, flat_map l]
theorem flat_one {α : Type} : ∀ l : List α, (l.flatMap fun x => [x]) = l
  | [] => rfl
  | x :: l => by rw [List.flatMap_cons, flat_one l]; rfl
theorem allTo_single {β : Type} {g : Int → List β} {a : Int} (hg : ∀ w, w ≠ a → g w = []) : ∀ k : Nat, 0 ≤ a → a < k → (allTo k).flatMap g = g a
  | 0, h0, h1 => by omega
  | k + 1, h0, h1 => by
    rw [allTo_succ, List.flatMap_append, List.flatMap_cons, List.flatMap_nil, List.append_nil]
    by_cases h : a = (k : Int)
    · subst h
      rw [flatMap_nothing fun t ht => hg t (by have := mem_allTo.1 ht; omega)]; rfl
    · rw [allTo_single hg k h0 (by omega), hg _ (fun e => h e.symm), List.append_nil]
theorem keptAt_fold (n : Int) : ∀ (l : List Line) (acc : Option Line) (x : Line), l.foldl (fun acc x => if x.no = n then some x else acc) acc = some x → acc = some x ∨ (x ∈ l ∧ x.no = n)
  | [], acc, x, h => .inl h
  | y :: l, acc, x, h => by
    rw [List.foldl_cons] at h
    rcases keptAt_fold n l _ x h with h | ⟨h1, h2⟩
    · by_cases hy : y.no = n
      · rw [if_pos hy] at h; injection h with h; subst h; exact .inr ⟨by simp, hy⟩
      · rw [if_neg hy] at h; exact .inl h
    · exact .inr ⟨by simp [h1], h2⟩
theorem keptAt_some {l : List Line} {n : Int} {x : Line} (h : keptAt l n = some x) : x ∈ l ∧ x.no = n := by
  rcases keptAt_fold n l none x h with h | h
  · cases h
  · exact h
theorem keptAt_keep (n : Int) : ∀ (l : List Line) (acc : Option Line), (l.foldl (fun acc x => if x.no = n then some x else acc) acc = none → acc = none ∧ ∀ x ∈ l, x.no ≠ n)
  | [], acc, h => ⟨h, by simp⟩
  | y :: l, acc, h => by
    rw [List.foldl_cons] at h
    obtain ⟨h1, h2⟩ := keptAt_keep n l _ h
    by_cases hy : y.no = n
    · rw [if_pos hy] at h1; cases h1
    · rw [if_neg hy] at h1
      refine ⟨h1, fun x hx => ?_⟩
      rcases List.mem_cons.1 hx with rfl | hx
      · exact hy
      · exact h2 x hx
theorem keptAt_none {l : List Line} {n : Int} (h : keptAt l n = none) : ∀ x ∈ l, x.no ≠ n := (keptAt_keep n l none h).2
theorem can_kept_fold (n : Int) : ∀ (l : List Line) (all : List Int) (acc : Option Line),
    l.foldl (fun acc x => if x.no = n then [x.what] else acc) (match acc with | some x => [x.what] | none => all) = match l.foldl (fun acc x => if x.no = n then some x else acc) acc with | some x => [x.what] | none => all
  | [], all, acc => rfl
  | y :: l, all, acc => by
    rw [List.foldl_cons, List.foldl_cons, ← can_kept_fold n l all]
    by_cases hy : y.no = n <;> simp [hy]
theorem canTo_kept (c : Code) (l : List Line) (n : Int) : canTo c l n = match keptAt l n with | some x => [x.what] | none => allTo c.things := can_kept_fold n l (allTo c.things) none
theorem rises_lt : ∀ {l : List Line} {prev : Option Int}, Rises prev l → ∀ x ∈ l, ∀ y, prev = some y → y < x.no
  | [], _, _, x, hx => by simp at hx
  | z :: l, prev, h, x, hx => by
    intro y hy
    subst hy
    obtain ⟨h1, h2⟩ := h
    have h1 : y < z.no := by simpa using h1
    rcases List.mem_cons.1 hx with rfl | hx
    · exact h1
    · have := rises_lt h2 x hx _ rfl; omega
theorem rises_unique : ∀ {l : List Line} {prev : Option Int}, Rises prev l → ∀ x ∈ l, ∀ y ∈ l, x.no = y.no → x = y
  | [], _, _, x, hx => by simp at hx
  | z :: l, prev, h, x, hx => by
    intro y hy e
    obtain ⟨h1, h2⟩ := h
    rcases List.mem_cons.1 hx with hx1 | hx1
    · rcases List.mem_cons.1 hy with hy1 | hy1
      · rw [hx1, hy1]
      · have := rises_lt h2 y hy1 _ rfl; rw [hx1] at e; omega
    · rcases List.mem_cons.1 hy with hy1 | hy1
      · have := rises_lt h2 x hx1 _ rfl; rw [hy1] at e; omega
      · exact rises_unique h2 x hx1 y hy1 e
theorem keptAt_mem {l : List Line} {prev : Option Int} (h : Rises prev l) {x : Line} (hx : x ∈ l) : keptAt l x.no = some x := by
  cases hk : keptAt l x.no with
  | none => exact absurd rfl (keptAt_none hk x hx)
  | some y =>
    obtain ⟨h1, h2⟩ := keptAt_some hk
    rw [rises_unique h y h1 x hx h2]
/-- All lists of a length that go on from p. -/
def pr (c : Code) (l : List Line) : Nat → List Int → List (List Int)
  | 0, p => [p]
  | r + 1, p => (canTo c l ((p.length : Int) + 1)).flatMap fun w => pr c l r (p ++ [w])
theorem pr_app (c : Code) (l : List Line) : ∀ (r : Nat) (p t : List Int), t ∈ pr c l r p → ∃ q, t = p ++ q ∧ q.length = r
  | 0, p, t, h => by simp [pr] at h; exact ⟨[], by simp [h], rfl⟩
  | r + 1, p, t, h => by
    simp only [pr, List.mem_flatMap] at h
    obtain ⟨w, _, h⟩ := h
    obtain ⟨q, rfl, hq⟩ := pr_app c l r _ t h
    exact ⟨w :: q, by simp, by simp [hq]⟩
theorem prods_pr {c : Code} {l : List Line} {m : Int} (hl : ∀ x ∈ l, LineOk c m x) : ∀ r n, prods c l (n + r) = (prods c l n).flatMap (pr c l r)
  | 0, n => by
    have : pr c l 0 = fun p => [p] := by funext p; rfl
    rw [this, flat_one]; rfl
  | r + 1, n => by
    have e : n + (r + 1) = (n + 1) + r := by omega
    rw [e, prods_pr hl r (n + 1)]
    show ((prods c l n).flatMap fun t => (canTo c l ((n : Int) + 1)).map fun w => t ++ [w]).flatMap (pr c l r) = _
    rw [flat_flat]
    refine flatMap_same fun t ht => ?_
    rw [flat_map]
    have := (prods_ok hl n t ht).1
    rw [pr, this]
theorem lineFits_app (c : Code) (p q : List Int) {x : Line} (h1 : 1 ≤ x.no) (h2 : x.no ≤ p.length) : lineFits c (p ++ q) x = lineFits c p x := by
  unfold lineFits
  have e1 : (p ++ q).getD (x.no - 1).toNat 0 = p.getD (x.no - 1).toNat 0 := by
    simp only [List.getD, List.getElem?_append_left (show (x.no - 1).toNat < p.length by omega)]
  have e2 : (p ++ q).take x.no.toNat = p.take x.no.toNat := List.take_append_of_le_length (by omega)
  rw [e1, e2]
theorem lineFits_last (c : Code) (p : List Int) (w : Int) {x : Line} (h : x.no = (p.length : Int) + 1) : lineFits c (p ++ [w]) x = (decide (w = x.what) && decide (c.total (p ++ [w]) = x.sum)) := by
  unfold lineFits
  have e0 : (x.no - 1).toNat = p.length := by omega
  have e1 : (p ++ [w]).getD (x.no - 1).toNat 0 = w := by rw [e0]; simp [List.getD]
  have e2 : (p ++ [w]).take x.no.toNat = p ++ [w] := List.take_of_length_le (by simp; omega)
  rw [e1, e2]
theorem pr_dfs {c : Code} {s : Sheet} (hs : s.Ok c) : ∀ (r : Nat) (p : List Int), (p.length : Int) + r = s.lines → (∀ x ∈ s.kept, x.no ≤ p.length → lineFits c p x = true) →
    (pr c s.kept r p).filter (fits c s) = dfs c s.kept r p
  | 0, p, hl, hp => by
    have : fits c s p = true := by
      refine fits_yes (by omega) fun j hj => hp _ (List.getElem_mem hj) ?_
      have := (hs.line _ (List.getElem_mem hj)).no2; omega
    simp [pr, dfs, this]
  | r + 1, p, hl, hp => by
    have key : ∀ w, (pr c s.kept r (p ++ [w])).filter (fits c s) = if goesOn c s.kept p w = true then dfs c s.kept r (p ++ [w]) else [] := by
      intro w
      by_cases hg : goesOn c s.kept p w = true
      · rw [if_pos hg]
        refine pr_dfs hs r (p ++ [w]) (by simp; omega) fun x hx hn => ?_
        have h1 := (hs.line x hx).no1
        by_cases hxl : x.no ≤ p.length
        · rw [lineFits_app c p [w] h1 hxl]; exact hp x hx hxl
        · have hxe : x.no = (p.length : Int) + 1 := by simp at hn; omega
          rw [lineFits_last c p w hxe]
          unfold goesOn at hg
          rw [← hxe, keptAt_mem hs.rises hx] at hg
          exact hg
      · rw [if_neg hg]
        unfold goesOn at hg
        cases hk : keptAt s.kept ((p.length : Int) + 1) with
        | none => rw [hk] at hg; simp at hg
        | some x =>
          rw [hk] at hg
          obtain ⟨hx, hxe⟩ := keptAt_some hk
          rw [List.filter_eq_nil_iff]
          intro t ht
          obtain ⟨q, rfl, _⟩ := pr_app c s.kept r _ t ht
          obtain ⟨j, hj, rfl⟩ := List.mem_iff_getElem.1 hx
          rw [fits_no hj]
          · simp
          · rw [lineFits_app c (p ++ [w]) q (hs.line _ hx).no1 (by simp; omega), lineFits_last c p w hxe]
            simpa using hg
    unfold pr
    rw [filter_flat, flatMap_same fun w _ => key w, dfs, canTo_kept]
    cases hk : keptAt s.kept ((p.length : Int) + 1) with
    | none => rfl
    | some x =>
      obtain ⟨hx, hxe⟩ := keptAt_some hk
      have hlo := hs.line x hx
      simp only []
      rw [List.flatMap_cons, List.flatMap_nil, List.append_nil]
      refine (allTo_single (g := fun w => if goesOn c s.kept p w = true then dfs c s.kept r (p ++ [w]) else []) (a := x.what) (fun w hw => ?_) c.things hlo.what1 hlo.what2).symm
      have : goesOn c s.kept p w = false := by unfold goesOn; rw [hk]; simp [hw]
      rw [this]; rfl
theorem tests_dfs {c : Code} {s : Sheet} (hs : s.Ok c) : dfs c s.kept s.lines.toNat [] = tests c s := by
  have := hs.l1
  rw [← pr_dfs hs s.lines.toNat [] (by simp; omega) fun x hx hn => by have := (hs.line x hx).no1; simp at hn; omega]
  unfold tests
  have h := prods_pr hs.line s.lines.toNat 0
  rw [Nat.zero_add] at h
  rw [h]
  simp [prods]
end Go.Bp
end
section
/- Plain Lean: the first of the shortest lists; struck lines; enough lines by keys. -/
namespace Go.Bp
open Go.RowKit
/-- The first of the shortest lists of numbers of ls for which p holds. -/
def fewestBy (p : List Int → Bool) (ls : List Int) : Option (List Int) := (List.range (ls.length + 1)).findSome? fun m => (combos m ls).find? p
/-- The error of a code and a sheet that some test has to fit. -/
def fittingErr (c : Code) (s : Sheet) : Int := if s.asked c ≠ 0 then s.asked c else if tests c s = [] then 9 else 0
theorem fittingErr_zero {c : Code} {s : Sheet} (h : fittingErr c s = 0) : c.Ok ∧ s.Ok c ∧ tests c s ≠ [] := by
  unfold fittingErr at h
  split at h
  · rename_i h1; exact absurd h h1
  · rename_i h1
    have h1 : s.asked c = 0 := by simpa using h1
    split at h
    · cases h
    · rename_i h2
      unfold Sheet.asked at h1
      split at h1
      · rename_i h3; exact absurd h1 h3
      · rename_i h3
        exact ⟨Code.ok_of_check (by simpa using h3), Sheet.ok_of_err h1, h2⟩
theorem asked_zero {c : Code} {s : Sheet} (h : s.asked c = 0) : c.Ok ∧ s.Ok c := by
  unfold Sheet.asked at h
  split at h
  · rename_i h3; exact absurd h h3
  · rename_i h3
    exact ⟨Code.ok_of_check (by simpa using h3), Sheet.ok_of_err h⟩
def fitsAns (c : Code) (s : Sheet) : Int × Int := if s.asked c ≠ 0 then (0, s.asked c) else ((tests c s).length, 0)
def outcomeOf (c : Code) (s : Sheet) : Int := if (tests c s).all c.passed = true then 1 else if (tests c s).any c.passed = true then 2 else 0
def outcomeAns (c : Code) (s : Sheet) : Int × Int := if fittingErr c s ≠ 0 then (0, fittingErr c s) else (outcomeOf c s, 0)
def showOf (c : Code) (s : Sheet) (b : Bool) : Option (List Int) := (tests c s).find? fun t => c.passed t == b
def showAns (c : Code) (s : Sheet) (b : Bool) : List Int × Int := if fittingErr c s ≠ 0 then ([], fittingErr c s) else match showOf c s b with | some t => (t, 0) | none => ([], 4)
def enoughErr (c : Code) (s : Sheet) (ls : List Int) : Int := if fittingErr c s ≠ 0 then fittingErr c s else rising (hasB s.lost) ls
def enoughAns (c : Code) (s : Sheet) (ls : List Int) : Bool × Int := if enoughErr c s ls ≠ 0 then (false, enoughErr c s ls) else (enough c (tests c s) ls, 0)
def fewestOf (c : Code) (s : Sheet) : List Int := (fewestBy (enough c (tests c s)) s.lost).getD s.lost
def fewestAns (c : Code) (s : Sheet) : List Int × Int := if fittingErr c s ≠ 0 then ([], fittingErr c s) else (fewestOf c s, 0)
/-- Does it help to strike these lines? -/
def helps (c : Code) (t ls : List Int) : Bool := (without c t ls).2 && c.passed (without c t ls).1
def appealAns (c : Code) (t : List Int) : List Int × Int := if c.whole t ≠ 0 then ([], c.whole t) else match fewestBy (helps c t) (numbers t.length) with | some l => (l, 0) | none => ([], 9)
def keepErr (c : Code) (t lost : List Int) : Int := if c.whole t ≠ 0 then c.whole t else if rising (hasB (numbers t.length)) lost ≠ 0 then rising (hasB (numbers t.length)) lost else if lost.length ≤ 3 then 0 else 3
/-- The lines that are kept, of the first k. -/
def keptTo (c : Code) (t lost : List Int) : Nat → List Line
  | 0 => []
  | k + 1 => keptTo c t lost k ++ if hasB lost ((k : Int) + 1) = true then [] else [⟨(k : Int) + 1, t.getD k 0, c.total (t.take (k + 1))⟩]
def keepAns (c : Code) (t lost : List Int) : Sheet × Int := if keepErr c t lost ≠ 0 then (⟨0, []⟩, keepErr c t lost) else (⟨t.length, keptTo c t lost t.length⟩, 0)
theorem keptTo_len (c : Code) (t lost : List Int) : ∀ k, (keptTo c t lost k).length ≤ k
  | 0 => by simp [keptTo]
  | k + 1 => by
    have := keptTo_len c t lost k
    unfold keptTo
    rw [List.length_append]
    split <;> simp <;> omega
theorem keptTo_yes {c : Code} {t lost : List Int} {k : Nat} (h : hasB lost ((k : Int) + 1) = true) : keptTo c t lost (k + 1) = keptTo c t lost k := by
  rw [keptTo, if_pos h, List.append_nil]
theorem keptTo_no {c : Code} {t lost : List Int} {k : Nat} (hk : k < t.length) (h : hasB lost ((k : Int) + 1) = false) : keptTo c t lost (k + 1) = keptTo c t lost k ++ [⟨(k : Int) + 1, t[k], c.total (t.take (k + 1))⟩] := by
  rw [keptTo, if_neg (by simp [h])]; simp [List.getD, hk]
/-! ### found and not found -/
theorem fewestBy_some {p : List Int → Bool} {ls l : List Int} {m : Nat} (hm : m ≤ ls.length) (hb : ∀ j, j < m → ∀ x ∈ combos j ls, p x = false) (hf : (combos m ls).find? p = some l) : fewestBy p ls = some l := by
  unfold fewestBy
  rw [List.findSome?_eq_some_iff]
  refine ⟨List.range m, m, List.range' (m + 1) (ls.length - m), ?_, hf, ?_⟩
  · apply List.ext_getElem
    · simp; omega
    · intro j h1 h2
      simp only [List.getElem_range, List.getElem_append, List.length_range, List.getElem_cons, List.getElem_range']
      split
      · rfl
      · split <;> omega
  · intro j hj
    rw [List.find?_eq_none]
    intro x hx
    simp [hb j (by simpa using hj) x hx]
theorem fewestBy_none {p : List Int → Bool} {ls : List Int} (hb : ∀ j, j ≤ ls.length → ∀ x ∈ combos j ls, p x = false) : fewestBy p ls = none := by
  unfold fewestBy
  rw [List.findSome?_eq_none_iff]
  intro j hj
  rw [List.find?_eq_none]
  intro x hx
  simp [hb j (by have := List.mem_range.1 hj; omega) x hx]
theorem find_at {α : Type} {p : α → Bool} {l : List α} {k : Nat} (hk : k < l.length) (hp : p l[k] = true) (hb : ∀ x ∈ l.take k, p x = false) : l.find? p = some l[k] := by
  rw [List.find?_eq_some_iff_append]
  refine ⟨hp, l.take k, l.drop (k + 1), ?_, fun a ha => by simp [hb a ha]⟩
  rw [← List.drop_eq_getElem_cons hk, List.take_append_drop]
theorem combos_self : ∀ l : List Int, combos l.length l = [l]
  | [] => by simp [combos]
  | x :: l => by
    have h : combos (l.length + 1) l = [] := combos_big l (l.length + 1) (Nat.lt_succ_self _)
    simp [combos, combos_self l, h]
where
  combos_big : ∀ (l : List Int) (m : Nat), l.length < m → combos m l = []
    | [], m, h => by cases m with | zero => simp at h | succ m => rfl
    | x :: l, m, h => by
      cases m with
      | zero => simp at h
      | succ m =>
        have h1 := combos_big l m (by simp at h; omega)
        have h2 := combos_big l (m + 1) (by simp at h; omega)
        simp [combos, h1, h2]
end Go.Bp
end
section
/- Regions that draw their order, where two operations may come up at once. -/
set_option maxRecDepth 100000
namespace Go.Bp
open Go.RowKit Go.Proofs
section
variable {P : Program} {ops : Array Oper} {Q : Exit → Act → World → Prop} {a : Act} {w : World} {rest : List Oper}
/-- A call, by its contract. -/
theorem q_call {o : Oper} (hg : o.guard = none) {f : FuncId} {args : Array Value} {R : Ending → World → Prop} (hc : Calls P f args w R) (hr : (execOp a.eval o).run P w = .ok (.enter f args) w)
    (hn : ∀ e w', R e w' → ∃ v, e = .returned v ∧ wpList P ops Q rest (a.put o.dst v) w') : wpList P ops Q (o :: rest) a w := by
  refine wpList_plain hg fun K hK => ?_
  unfold Oper.wp
  rw [hr]
  refine Calls.mono hc fun e w' he => ?_
  obtain ⟨v, rfl, hk⟩ := hn e w' he
  exact hK _ _ hk
end
/-- take i: number i only reads and is taken first; one i: i alone may come up; two i j: either may. -/
inductive OTree where
  | nil
  | take (i : Nat) (r : OTree)
  | one (i : Nat) (r : OTree)
  | two (i : Nat) (r : OTree) (j : Nat) (s : OTree)
def OTree.depth : OTree → Nat
  | .nil => 0
  | .take _ r => r.depth + 1
  | .one _ r => r.depth + 1
  | .two _ r _ s => max r.depth s.depth + 1
section
variable {P : Program} {md : Region.Mode} {ops : Array Oper} {Q : Exit → Act → World → Prop} {S : World → Prop}
def okTree (md : Region.Mode) (ops : Array Oper) : OTree → Array Bool → Bool
  | .nil, l => (Region.ready md ops l).isEmpty
  | .take i r, l => Region.free md ops l i && (Region.ready md ops l).contains i && okTree md ops r (l.setIfInBounds i true)
  | .one i r, l => (Region.ready md ops l == [i]) && okTree md ops r (l.setIfInBounds i true)
  | .two i r j s, l => (Region.ready md ops l == [i, j]) && okTree md ops r (l.setIfInBounds i true) && okTree md ops s (l.setIfInBounds j true)
def wpTree (P : Program) (ops : Array Oper) (Q : Exit → Act → World → Prop) (S : World → Prop) : OTree → Act → World → Prop
  | .nil, a, w => Q .normal a w
  | .take i r, a, w => ∃ oi v, ops[i]? = some oi ∧ YieldsIf P ops S oi v a ∧ S w ∧ wpTree P ops Q S r (a.put oi.dst v) w
  | .one i r, a, w => wpOp P ops Q i (fun a' w' => S w' ∧ wpTree P ops Q S r a' w') a w
  | .two i r j s, a, w => wpOp P ops Q i (fun a' w' => S w' ∧ wpTree P ops Q S r a' w') a w ∧ wpOp P ops Q j (fun a' w' => S w' ∧ wpTree P ops Q S s a' w') a w
theorem wpAnyH_of_tree (hs : Region.noSelect ops = true) (hQ : ∀ c (a : Act) (d : Tmp) (v : Value) (w : World), Q (.panic c) (a.put (some d) v) w → Q (.panic c) a w) :
    ∀ (t : OTree) (l : Array Bool) (fuel : Nat) (a : Act) (w : World), t.depth ≤ fuel → okTree md ops t l = true → wpTree P ops Q S t a w → wpAnyH P md ops Q S fuel l a w
  | .nil, l, fuel, a, w, _, hok, h => wpAnyH_done (by simpa [okTree] using hok) h fuel
  | .take i r, l, 0, a, w, hf, _, _ => by simp [OTree.depth] at hf
  | .one i r, l, 0, a, w, hf, _, _ => by simp [OTree.depth] at hf
  | .two i r j s, l, 0, a, w, hf, _, _ => by simp [OTree.depth] at hf
  | .take i r, l, fuel + 1, a, w, hf, hok, h => by
    obtain ⟨oi, v, ho, hy, hS, h⟩ := h
    simp only [okTree, Bool.and_eq_true] at hok
    exact wpAnyH_take ho hs hok.1.1 hok.1.2 (fun c a w h => put_any hQ c a oi.dst v w h) hy hS (wpAnyH_of_tree hs hQ r _ fuel _ _ (by simpa [OTree.depth] using hf) hok.2 h)
  | .one i r, l, fuel + 1, a, w, hf, hok, h => by
    simp only [okTree, Bool.and_eq_true, beq_iff_eq] at hok
    refine wpAnyH_all hok.1 (by simp) fun j hj => ?_
    obtain rfl : j = i := by simpa using hj
    exact wpOp_mono (fun a' w' h' => ⟨h'.1, wpAnyH_of_tree hs hQ r _ fuel _ _ (by simpa [OTree.depth] using hf) hok.2 h'.2⟩) h
  | .two i r j s, l, fuel + 1, a, w, hf, hok, h => by
    simp only [okTree, Bool.and_eq_true, beq_iff_eq] at hok
    obtain ⟨h1, h2⟩ := h
    have hd : r.depth ≤ fuel ∧ s.depth ≤ fuel := by simp only [OTree.depth] at hf; omega
    refine wpAnyH_all hok.1.1 (by simp) fun k hk => ?_
    have hk : k = i ∨ k = j := by simpa using hk
    rcases hk with rfl | rfl
    · exact wpOp_mono (fun a' w' h' => ⟨h'.1, wpAnyH_of_tree hs hQ r _ fuel _ _ hd.1 hok.1.2 h'.2⟩) h1
    · exact wpOp_mono (fun a' w' h' => ⟨h'.1, wpAnyH_of_tree hs hQ s _ fuel _ _ hd.2 hok.2 h'.2⟩) h2
theorem wp_region_tree {id : Nat} {a : Act} {w : World} (t : OTree) (S : World → Prop) (hm : P.follows .mixedOrders = true)
    (hs : Region.noSelect ops = true) (hf : Nat.ble t.depth ops.size = true) (hok : okTree .any ops t (Array.replicate ops.size false) = true)
    (hQ : ∀ c (a : Act) (d : Tmp) (v : Value) (w : World), Q (.panic c) (a.put (some d) v) w → Q (.panic c) a w)
    (hS : S w.drew) (h : S w.drew → wpTree P ops Q S t a w.drew) : (Code.region id ops true).wp P Q a w :=
  wp_region_held_drew (S := S) hm hS fun hS => wpAnyH_of_tree hs hQ t _ _ _ _ (Nat.le_of_ble_eq_true hf) hok (h hS)
variable {i j : Nat} {r s : OTree} {o : Oper} {a : Act} {w : World}
theorem t_done (h : Q .normal a w) : wpTree P ops Q S .nil a w := h
theorem t_take {v : Value} (ho : ops[i]? = some o) (hg : o.guard = none) (hy : ∀ w, S w → (execOp a.eval o).run P w = .ok (.value v) w) (hS : S w)
    (k : wpTree P ops Q S r (a.put o.dst v) w) : wpTree P ops Q S (.take i r) a w :=
  ⟨o, v, ho, .inl ⟨by simp [Region.wanted, hg], hy⟩, hS, k⟩
def thenTree (P : Program) (ops : Array Oper) (Q : Exit → Act → World → Prop) (S : World → Prop) (r : OTree) : Exit → Act → World → Prop
  | .normal, a, w => S w ∧ wpTree P ops Q S r a w
  | e, a, w => Q e a w
theorem upon_thenT {next : Act → World → Prop} {x : Result Next} (h : o.upon P a next (thenTree P ops Q S r) x) : o.upon P a next Q x := by
  cases x with
  | ok n w' =>
    cases n with
    | enter f args => exact Calls.mono h fun e w'' he => by cases e <;> exact he
    | _ => exact h
  | halt x w' =>
    cases x <;> exact h
theorem wpOp_list (ho : ops[i]? = some o) (h : wpList P ops (thenTree P ops Q S r) [o] a w) : wpOp P ops Q i (fun a' w' => S w' ∧ wpTree P ops Q S r a' w') a w := by
  unfold wpOp
  simp only [ho]
  unfold wpList at h
  split
  · rename_i hw
    rw [if_pos hw] at h
    rcases h with h | ⟨h1, ⟨a2, w2, h2⟩⟩
    · exact .inl (upon_thenT h)
    · exact .inr ⟨h1, ⟨a2, w2, h2⟩⟩
  · rename_i hw
    rw [if_neg hw] at h
    exact h
theorem t_one (ho : ops[i]? = some o) (h : wpList P ops (thenTree P ops Q S r) [o] a w) : wpTree P ops Q S (.one i r) a w := wpOp_list ho h
theorem t_two {o' : Oper} (ho : ops[i]? = some o) (ho' : ops[j]? = some o') (h : wpList P ops (thenTree P ops Q S r) [o] a w) (h' : wpList P ops (thenTree P ops Q S s) [o'] a w) : wpTree P ops Q S (.two i r j s) a w :=
  ⟨wpOp_list ho h, wpOp_list ho' h'⟩
theorem t_next (hS : S w) (k : S w → wpTree P ops Q S r a w) : wpList P ops (thenTree P ops Q S r) [] a w := ⟨hS, k hS⟩
end
end Go.Bp
end
section
set_option maxRecDepth 100000
set_option linter.unusedSimpArgs false
set_option linter.unusedVariables false
namespace Go.Bp
open Go.RowKit Go.Proofs
section
variable {ops : Array Oper} {Q : Exit → Act → World → Prop} {a : Act} {w : World} {rest : List Oper}
variable {d : Option Tmp} {ty : TypeId} {pos : String} {after : Array Edge}
theorem run_bslice0 (P : Program) (w : World) {t e : TypeId} {z : Value} {s : Nat} (ht : P.underlying t = some (.slice e)) (hi : (P.info? e).map (fun i => (i.zero, i.size)) = some (some z, s)) :
    (Instr.buildSlice t 0 #[]).run P w = .ok (.slice (some ⟨w.heap.size, 0, none⟩) 0 0) (w.alloc (.cells #[] e)) := by
  cases h : P.info? e with
  | none => rw [h] at hi; cases hi
  | some i =>
    rw [h] at hi
    simp only [Option.map_some, Option.some.injEq, Prod.mk.injEq] at hi
    obtain ⟨h0, h1⟩ := hi
    cases i
    dsimp only at h0 h1
    subst h0 h1
    have h0 : Array.range 0 = #[] := by decide
    simp [Instr.buildSlice, run_underlying ht, sizeOf, typeInfo, zeroValue, h, Instr.fill, newRow, newObj, Sem.run, h0]
theorem q_bs0 (k : ∀ W g, Ext w W → Blk W g 3 #[] → w.heap.size ≤ g → wpList Tryz.prog ops Q rest (a.put d (.slice (some ⟨g, 0, none⟩) 0 0)) W) :
    wpList Tryz.prog ops Q (⟨d, .buildSlice 26 0 #[], ty, pos, after, none⟩ :: rest) a w :=
  q_bslice (by have := run_bslice0 Tryz.prog w Tryz.underlying26 (ti2 ti3); simpa using this) k
end
theorem OwnI.of_blk0 {B g : Nat} {w : World} (h : Blk w g 3 #[]) (hB : B ≤ g) : OwnI B w (.slice (some ⟨g, 0, none⟩) 0 0) [] :=
  ⟨by simp [encI], .inr ⟨g, 0, _, rfl, hB, h, Nat.le_refl _, by decide, rfl, by simp [encI]⟩⟩
theorem allTo_zero : allTo 0 = [] := rfl
theorem canTo_zero (c : Code) (l : List Line) (n : Int) : canTo c (l.take 0) n = allTo c.things := by simp [canTo]
theorem moreTo_zero (l : List (List Int)) (can : List Int) : moreTo l can 0 = [] := by simp [moreTo]
set_option maxHeartbeats 4000000 in
theorem Rtests_any (cv sv : Value) (c : Code) (s : Sheet) (w : World) (h : CodeV w cv c) (hsv : SheetV w sv s) (ho : c.Ok) (hs : s.Ok c) :
    Calls Tryz.prog 75 #[cv, sv] w (RetSS w (tests c s)) := by
  obtain ⟨fv, mv, rfl, hF, hM, hW⟩ := h
  obtain ⟨kv, rfl, hK⟩ := hsv
  obtain ⟨A, cp, rfl, h1, h2, h3, h4⟩ := hK
  have hK : Lines w (.slice A s.kept.length cp) s.kept := ⟨A, cp, rfl, h1, h2, h3, h4⟩
  unfold maxLen at h2
  clear h3
  have hE := Ext.refl w
  have HW := Lib.hid hW
  have Ho := Lib.hid ho
  have Hs := Lib.hid hs
  have hs1 := hs.l1
  have hs2 := hs.l2
  have ht9 := ho.thing9
  have hcb : c.faults.length ≤ 1000000 ∧ c.man.length ≤ 1000000 := ⟨by have := ho.nf2; omega, by have := ho.nm; omega⟩
  have Hcb := Lib.hid hcb
  clear hW ho hs hcb
  go_enter Tryz.func75, Tryz.ntmps75
  go_wp2_with (first | ((with_reducible refine q_box (d := some 2) ?_); intro W2 g2 hE2 hB2 hg2; simp [Act.eval, Act.put, Value.cells] at hB2; replace hE := hE.trans hE2; replace hF := hF.ext hE2; replace hM := hM.ext hE2; replace hK := hK.ext hE2) | ((with_reducible refine q_box (d := some 3) ?_); intro W3 g3 hE3 hB3 hg3; simp [Act.eval, Act.put, Value.cells] at hB3; replace hB2 := hB2.ext hE3; replace hE := hE.trans hE3; replace hF := hF.ext hE3; replace hM := hM.ext hE3; replace hK := hK.ext hE3) | (with_reducible refine q_bs0 (d := some 15) ?_; intro W15 g15 hE15 hB15 hg15; replace hE := hE.trans hE15) | ((with_reducible refine q_bsSS (d := some 16) (A := some ⟨g15, 0, none⟩) (n := 0) (c := 0) ?_ ?_); rfl; intro W16 g16 hE16 hB16 hg16; replace hE := hE.trans hE16))
  have hB16' : W16.heap[g16]? = some (.cells #[.slice (some ⟨g15, 0, none⟩) 0 0] 26 (0, 0)) := hB16
  have hO0 : OwnSS w.heap.size W16 (.slice (some ⟨g16, 0, none⟩) 1 1) [[]] := OwnSS.of_blk hB16 (IntB.of_own (OwnI.of_blk0 (B := 0) (hB15.ext hE16) (by omega))) (by have := hE2.size; have := hE3.size; have := hE15.size; omega)
  have hB2' := (hB2.ext hE15).ext hE16
  have hB3' := (hB3.ext hE15).ext hE16
  replace hF := (hF.ext hE15).ext hE16; replace hM := (hM.ext hE15).ext hE16; replace hK := (hK.ext hE15).ext hE16
  have hB0 := hE.size
  have hE0 := hE
  clear hB2 hB3 hB15 hB16 hB16' hE15 hE16 hE2 hE3 hE hg2 hg3 hg15 hg16
  go_loopw [5, 6] (fun v i wr => Ext W16 wr ∧ ∃ n : Nat, n ≤ s.lines.toNat ∧ i = .int .i64 ((n : Int) + 1) ∧ OwnSS w.heap.size wr v (prods c s.kept n)) (fun _ i _ => s.lines.toNat + 1 - (intOf i).toNat)
  case atStart => exact ⟨Ext.refl _, 0, by omega, rfl, hO0⟩
  case round =>
    obtain ⟨hEr, n, hn, rfl, hO⟩ := hrel
    replace hF := hF.ext hEr; replace hM := hM.ext hEr; replace hK := hK.ext hEr
    replace hB2' := hB2'.ext hEr; replace hB3' := hB3'.ext hEr
    have c20 := hB2'.cell 0; have c21 := hB2'.cell 1; have c22 := hB2'.cell 2
    have c30 := hB3'.cell 0; have c31 := hB3'.cell 1
    simp at c20 c21 c22 c30 c31
    obtain ⟨l, hl⟩ : ∃ l, prods c s.kept n = l := ⟨_, rfl⟩
    rw [hl] at hO
    have hl1 : l.length ≤ 729 := by rw [← hl]; exact prods_729 Ho.out Hs.out hn
    have hE := hE0.trans hEr
    have HE0 := Lib.hid hE0
    clear hO0 hE0
    by_cases hlt : (n : Int) + 1 ≤ s.lines
    · have Hl := Lib.hid hl
      clear hl
      go_wp2
      obtain ⟨Wl, hWl⟩ : ∃ W, W = wr := ⟨_, rfl⟩
      subst hWl
      go_loopw [7, 8] (fun v i wr => Ext Wl wr ∧ ∃ k : Nat, k ≤ c.things ∧ i = .int .i64 k ∧ OwnI Wl.heap.size wr v (allTo k)) (fun _ i _ => c.things - (intOf i).toNat)
      case atStart => exact ⟨Ext.refl _, 0, by omega, rfl, OwnI.nil _ _⟩
      case round =>
        obtain ⟨hEw, k, hk, rfl, hC⟩ := hrel
        have hkl := Lib.hid (allTo_len k)
        have d20 := Ext.cell_some hEw c20; have d21 := Ext.cell_some hEw c21; have d22 := Ext.cell_some hEw c22
        have kF := hF.ext hEw; have kM := hM.ext hEw
        have HF := Lib.hid hF; have HM := Lib.hid hM; have HK := Lib.hid hK; have H20 := Lib.hid c20; have H21 := Lib.hid c21; have H22 := Lib.hid c22; have H30 := Lib.hid c30; have H31 := Lib.hid c31
        clear hF hM hK c20 c21 c22 c30 c31
        by_cases hkt : k < c.things
        · go_wp2_with (first | (go_at_call 97; ((with_reducible refine (things_any _ c _ (CodeV.of kF kM HW.out) Hcb.out).mono ?_); rintro e Wc ⟨rfl, hEc⟩; replace hEw := hEw.trans hEc; replace hC := hC.ext hEc)) | ((with_reducible refine q_bsI (d := some 31) (n := (k : Int)) ?_ ?_); rfl; intro W31 g31 hE31 hB31 hg31; replace hEw := hEw.trans hE31; replace hC := hC.ext hE31) | (refine q_appI (d := some 32) rfl hC rfl hB31 (by have := hkl.out; omega) hEw.size ?_; intro v32 W32 hC' hmono hgr; replace hEw := hmono _ hEw))
          go_roundw
          case rel => exact ⟨hEw, k + 1, by omega, by go_num, by rw [allTo_succ]; exact hC'⟩
          case measure => simp [intOf]; omega
        · obtain rfl : k = c.things := by omega
          go_wp2_with (first | (go_at_call 97; ((with_reducible refine (things_any _ c _ (CodeV.of kF kM HW.out) Hcb.out).mono ?_); rintro e Wc ⟨rfl, hEc⟩; replace hEw := hEw.trans hEc; replace hC := hC.ext hEc)))
          obtain ⟨Wm, hWm⟩ : ∃ W, W = Wc := ⟨_, rfl⟩
          subst hWm
          have c30 := Ext.cell_some hEw H30.out; have c31 := Ext.cell_some hEw H31.out
          rw [← canTo_zero c s.kept ((n : Int) + 1)] at hC
          clear d20 d21 d22 kF kM hkl
          go_loopw [7, 9] (fun v i wr => Ext Wl wr ∧ ∃ k : Nat, k ≤ s.kept.length ∧ i = .int .i64 k ∧ OwnI Wl.heap.size wr v (canTo c (s.kept.take k) ((n : Int) + 1))) (fun _ i _ => s.kept.length - (intOf i).toNat)
          case atStart => exact ⟨hEw, 0, by omega, rfl, hC⟩
          case round =>
            obtain ⟨hEx, k, hk, rfl, hD⟩ := hrel
            clear hC hEw c30 c31
            have c30 := Ext.cell_some hEx H30.out; have c31 := Ext.cell_some hEx H31.out
            by_cases hkt : k < s.kept.length
            · obtain ⟨ad, rfl, hc⟩ := h4 (by omega)
              have hc' := hc.ext (HE0.out.trans (hEr.trans hEx))
              have e0 := hc'.l0 hkt
              have e1 := hc'.l1 hkt
              have hs := canTo_succ c s.kept ((n : Int) + 1) hkt
              clear h4 hc hc'
              by_cases hno : s.kept[k].no = (n : Int) + 1
              · rw [if_pos hno] at hs
                have Hs2 := Lib.hid hs
                have q : (s.kept[k].no == (n : Int) + 1) = true := by simp [hno]
                have Hno := Lib.hid hno
                clear hs hno
                go_wp2_with (first | ((with_reducible refine q_bsI (d := some 54) (n := s.kept[k].what) ?_ ?_); rfl; intro W54 g54 hE54 hB54 hg54; have hEy := hEx.trans hE54))
                go_roundw
                case rel => exact ⟨hEy, k + 1, by omega, by go_num, by rw [Hs2.out]; exact OwnI.of_blk hB54 (by have := hEx.size; omega)⟩
                case measure => simp [intOf]; omega
              · rw [if_neg hno] at hs
                have Hs2 := Lib.hid hs
                have q : (s.kept[k].no == (n : Int) + 1) = false := by simp [hno]
                have Hno := Lib.hid hno
                clear hs hno
                go_wp2
                go_roundw
                case rel => exact ⟨hEx, k + 1, by omega, by go_num, by rw [Hs2.out]; exact hD⟩
                case measure => simp [intOf]; omega
            · obtain rfl : k = s.kept.length := by omega
              rw [List.take_length] at hD
              go_wp2
              obtain ⟨Wn, hWn⟩ : ∃ W, W = wr := ⟨_, rfl⟩
              subst hWn
              obtain ⟨can, hcan⟩ : ∃ can, canTo c s.kept ((n : Int) + 1) = can := ⟨_, rfl⟩
              rw [hcan] at hD
              have hcl : can.length ≤ 9 := by rw [← hcan, canTo_len]; split <;> omega
              have Hcan := Lib.hid hcan
              have hL := hO.ss.ext hEx
              have hI := IntB.of_own hD
              obtain ⟨A5, c5, rfl, q1, q2⟩ := hL.len
              obtain ⟨Ac, cc, rfl, r1, r2, _, hIc4⟩ := hI.ints
              unfold maxLen at q2 r2
              have hEn := hEr.trans hEx
              have HEn := Lib.hid hEn
              clear hcan hD hEx hO hEn h4 c30 c31
              go_loopw [10, 11] (fun v i wr => Ext Wn wr ∧ ∃ k : Nat, k ≤ l.length ∧ i = .int .i64 k ∧ OwnSS Wn.heap.size wr v (moreTo l can k)) (fun _ i _ => l.length - (intOf i).toNat)
              case atStart => exact ⟨Ext.refl _, 0, by omega, rfl, by rw [moreTo_zero]; exact OwnSS.nil _ _⟩
              case round =>
                obtain ⟨hEs, k, hk, rfl, hP⟩ := hrel
                by_cases hkt : k < l.length
                · go_wp2
                  obtain ⟨Wo, hWo⟩ : ∃ W, W = wr := ⟨_, rfl⟩
                  subst hWo
                  rw [← moreJ_zero] at hP
                  go_loopw [10, 12] (fun v i wr => Ext Wn wr ∧ ∃ m : Nat, m ≤ can.length ∧ i = .int .i64 m ∧ OwnSS Wn.heap.size wr v (moreJ l can k m)) (fun _ i _ => can.length - (intOf i).toNat)
                  case atStart => exact ⟨hEs, 0, by omega, rfl, hP⟩
                  case round =>
                    obtain ⟨hEt, m, hm, rfl, hP'⟩ := hrel
                    clear hP hEs
                    by_cases hmt : m < can.length
                    · obtain ⟨ad5, u, rfl, e10, hu0⟩ := hL.at_ hkt
                      have e1 := Ext.cell_some hEt e10
                      have hu := hu0.ext hEt
                      obtain ⟨Au, cu, rfl, hu1, hu2, _⟩ := hu.ints
                      obtain ⟨adc, rfl, hcc0⟩ := hIc4 (by omega)
                      have e20 := hcc0.i hmt
                      have e2 := Ext.cell_some hEt e20
                      clear hIc4 hcc0
                      have hml := moreJ_len l can (j := m) hkt
                      have hm729 : l.length * can.length ≤ 729 * 9 := Nat.mul_le_mul hl1 hcl
                      have hss := moreJ_succ hkt hmt
                      have Hss := Lib.hid hss
                      have Hul := Lib.hid ((prods_ok Hs.out.line _ _ (by rw [Hl.out]; exact List.getElem_mem hkt)).1)
                      have hZ := Ext.todrew (Ext.refl wr)
                      clear hss
                      go_wp2_with fail
                      refine wp_region_tree (.take 0 (.take 2 (.take 3 (.take 4 (.take 5 (.take 7 (.take 8 (.take 9 (.take 10 (.two 1 (.two 6 (.one 11 (.one 12 (.one 13 (.one 14 (.take 15 .nil))))) 11 (.one 6 (.one 12 (.one 13 (.one 14 (.take 15 .nil)))))) 11 (.one 1 (.one 6 (.one 12 (.one 13 (.one 14 (.take 15 .nil)))))))))))))))) (fun w' => w'.cell? (ad5.add k) = some (.slice Au l[k].length cu) ∧ w'.cell? (adc.add m) = some (.int .i64 can[m])) (by kernel_rfl) (by kernel_rfl) (by kernel_rfl) (by kernel_rfl) (fun _ _ _ _ _ h => h) ?_ (fun hHeld => ?_)
                      · (first | exact True.intro | ((try dsimp only); (repeat' apply And.intro) <;> first | assumption | (refine Ext.cell_some (Ext.todrew (Ext.refl _)) ?_; assumption)))
                      refine t_take (i := 0) (v := ?_) (by (simp only [List.getElem?_toArray, List.getElem?_cons_succ, List.getElem?_cons_zero]); rfl) (by rfl) ?_ (by exact hHeld) ?_
                      rotate_left
                      · (intro wq hSw; (try dsimp only at hSw); go_simp; (try with_reducible rfl))
                      (try simp only [Act.put, List.setIfInBounds_toArray, List.set_cons_zero, List.set_cons_succ])
                      refine t_take (i := 2) (v := ?_) (by (simp only [List.getElem?_toArray, List.getElem?_cons_succ, List.getElem?_cons_zero]); rfl) (by rfl) ?_ (by exact hHeld) ?_
                      rotate_left
                      · (intro wq hSw; (try dsimp only at hSw); go_simp; (try with_reducible rfl))
                      (try simp only [Act.put, List.setIfInBounds_toArray, List.set_cons_zero, List.set_cons_succ])
                      refine t_take (i := 3) (v := ?_) (by (simp only [List.getElem?_toArray, List.getElem?_cons_succ, List.getElem?_cons_zero]); rfl) (by rfl) ?_ (by exact hHeld) ?_
                      rotate_left
                      · (intro wq hSw; (try dsimp only at hSw); go_simp; (try with_reducible rfl))
                      (try simp only [Act.put, List.setIfInBounds_toArray, List.set_cons_zero, List.set_cons_succ])
                      refine t_take (i := 4) (v := ?_) (by (simp only [List.getElem?_toArray, List.getElem?_cons_succ, List.getElem?_cons_zero]); rfl) (by rfl) ?_ (by exact hHeld) ?_
                      rotate_left
                      · (intro wq hSw; (try dsimp only at hSw); go_simp; (try with_reducible rfl))
                      (try simp only [Act.put, List.setIfInBounds_toArray, List.set_cons_zero, List.set_cons_succ])
                      refine t_take (i := 5) (v := ?_) (by (simp only [List.getElem?_toArray, List.getElem?_cons_succ, List.getElem?_cons_zero]); rfl) (by rfl) ?_ (by exact hHeld) ?_
                      rotate_left
                      · (intro wq hSw; (try dsimp only at hSw); go_simp; (try with_reducible rfl))
                      (try simp only [Act.put, List.setIfInBounds_toArray, List.set_cons_zero, List.set_cons_succ])
                      refine t_take (i := 7) (v := ?_) (by (simp only [List.getElem?_toArray, List.getElem?_cons_succ, List.getElem?_cons_zero]); rfl) (by rfl) ?_ (by exact hHeld) ?_
                      rotate_left
                      · (intro wq hSw; (try dsimp only at hSw); go_simp; (try with_reducible rfl))
                      (try simp only [Act.put, List.setIfInBounds_toArray, List.set_cons_zero, List.set_cons_succ])
                      refine t_take (i := 8) (v := ?_) (by (simp only [List.getElem?_toArray, List.getElem?_cons_succ, List.getElem?_cons_zero]); rfl) (by rfl) ?_ (by exact hHeld) ?_
                      rotate_left
                      · (intro wq hSw; (try dsimp only at hSw); go_simp; (try with_reducible rfl))
                      (try simp only [Act.put, List.setIfInBounds_toArray, List.set_cons_zero, List.set_cons_succ])
                      refine t_take (i := 9) (v := ?_) (by (simp only [List.getElem?_toArray, List.getElem?_cons_succ, List.getElem?_cons_zero]); rfl) (by rfl) ?_ (by exact hHeld) ?_
                      rotate_left
                      · (intro wq hSw; (try dsimp only at hSw); go_simp; (try with_reducible rfl))
                      (try simp only [Act.put, List.setIfInBounds_toArray, List.set_cons_zero, List.set_cons_succ])
                      refine t_take (i := 10) (v := ?_) (by (simp only [List.getElem?_toArray, List.getElem?_cons_succ, List.getElem?_cons_zero]); rfl) (by rfl) ?_ (by exact hHeld) ?_
                      rotate_left
                      · (intro wq hSw; (try dsimp only at hSw); go_simp; (try with_reducible rfl))
                      (try simp only [Act.put, List.setIfInBounds_toArray, List.set_cons_zero, List.set_cons_succ])
                      refine t_two (i := 1) (j := 11) (by (simp only [List.getElem?_toArray, List.getElem?_cons_succ, List.getElem?_cons_zero]); rfl) (by (simp only [List.getElem?_toArray, List.getElem?_cons_succ, List.getElem?_cons_zero]); rfl) ?_ ?_
                      · (((with_reducible refine q_bs0 (d := some 68) ?_); intro W68 g68 hE68 hB68 hg68; (try have hne : g78 ≠ g68 := by have := hB78.lt; omega); replace hZ := hZ.trans hE68; have f1 := Ext.cell_some hZ e1; have f2 := Ext.cell_some hZ e2; (try replace hB78 := hB78.ext hE68); have hq68 : wr.heap.size ≤ g68 := Nat.le_trans (by first | exact hZ78 | exact Nat.le_refl _) hg68))
                        clear hHeld; refine t_next ?_ (fun hHeld => ?_)
                        · (first | exact True.intro | ((try dsimp only); (repeat' apply And.intro) <;> first | assumption | (refine Ext.cell_some (Ext.todrew (Ext.refl _)) ?_; assumption)))
                        (try simp only [Act.put, List.setIfInBounds_toArray, List.set_cons_zero, List.set_cons_succ])
                        refine t_two (i := 6) (j := 11) (by (simp only [List.getElem?_toArray, List.getElem?_cons_succ, List.getElem?_cons_zero]); rfl) (by (simp only [List.getElem?_toArray, List.getElem?_cons_succ, List.getElem?_cons_zero]); rfl) ?_ ?_
                        · ((refine q_appII (d := some 73) rfl (OwnI.of_blk0 hB68 hq68) rfl (hu.ints.ext hZ) (by have := Hul.out; simp; omega) hZ.size ?_; intro v73 W73 hO73 hm73 hgr73; replace hZ := (show Ext _ W73 from Below.mono (hm73 _ hZ) (Nat.le_refl _)); have f1 := Ext.cell_some hZ e1; have f2 := Ext.cell_some hZ e2; (try replace hB78 := hB78.grown hgr73 (show some g78 ≠ some g68 from fun e => hne (Option.some.inj e)))))
                          clear hHeld; refine t_next ?_ (fun hHeld => ?_)
                          · (first | exact True.intro | ((try dsimp only); (repeat' apply And.intro) <;> first | assumption | (refine Ext.cell_some (Ext.todrew (Ext.refl _)) ?_; assumption)))
                          (try simp only [Act.put, List.setIfInBounds_toArray, List.set_cons_zero, List.set_cons_succ])
                          refine t_one (i := 11) (by (simp only [List.getElem?_toArray, List.getElem?_cons_succ, List.getElem?_cons_zero]); rfl) ?_
                          (((with_reducible refine q_bsI (d := some 78) (n := can[m]) ?_ ?_); rfl; intro W78 g78 hE78 hB78 hg78; have hZ78 := (hZ.trans hE78).size; (try have hne : g78 ≠ g68 := by have := hB68.lt; omega); replace hZ := hZ.trans hE78; have f1 := Ext.cell_some hZ e1; have f2 := Ext.cell_some hZ e2; (try replace hB68 := hB68.ext hE78); (try replace hO73 := hO73.ext hE78)))
                          clear hHeld; refine t_next ?_ (fun hHeld => ?_)
                          · (first | exact True.intro | ((try dsimp only); (repeat' apply And.intro) <;> first | assumption | (refine Ext.cell_some (Ext.todrew (Ext.refl _)) ?_; assumption)))
                          (try simp only [Act.put, List.setIfInBounds_toArray, List.set_cons_zero, List.set_cons_succ])
                          refine t_one (i := 12) (by (simp only [List.getElem?_toArray, List.getElem?_cons_succ, List.getElem?_cons_zero]); rfl) ?_
                          ((refine q_appII (d := some 79) rfl hO73 rfl (OwnI.of_blk (B := 0) hB78 (Nat.zero_le _)).ints (by have := Hul.out; simp; omega) hZ.size ?_; intro v79 W79 hO79 hm79 hgr79; replace hZ := (show Ext _ W79 from Below.mono (hm79 _ hZ) (Nat.le_refl _)); have f1 := Ext.cell_some hZ e1; have f2 := Ext.cell_some hZ e2; obtain ⟨A79, c79, e79, _, _, _⟩ := hO79.ints; subst e79))
                          clear hHeld; refine t_next ?_ (fun hHeld => ?_)
                          · (first | exact True.intro | ((try dsimp only); (repeat' apply And.intro) <;> first | assumption | (refine Ext.cell_some (Ext.todrew (Ext.refl _)) ?_; assumption)))
                          (try simp only [Act.put, List.setIfInBounds_toArray, List.set_cons_zero, List.set_cons_succ])
                          refine t_one (i := 13) (by (simp only [List.getElem?_toArray, List.getElem?_cons_succ, List.getElem?_cons_zero]); rfl) ?_
                          (((with_reducible refine q_bsSS (d := some 80) (A := A79) (n := (([] ++ l[k]) ++ [can[m]]).length) (c := c79) ?_ ?_); rfl; intro W80 g80 hE80 hB80 hg80; replace hZ := hZ.trans hE80; have f1 := Ext.cell_some hZ e1; have f2 := Ext.cell_some hZ e2; have hv80 := (IntB.of_own hO79).ext hE80))
                          clear hHeld; refine t_next ?_ (fun hHeld => ?_)
                          · (first | exact True.intro | ((try dsimp only); (repeat' apply And.intro) <;> first | assumption | (refine Ext.cell_some (Ext.todrew (Ext.refl _)) ?_; assumption)))
                          (try simp only [Act.put, List.setIfInBounds_toArray, List.set_cons_zero, List.set_cons_succ])
                          refine t_one (i := 14) (by (simp only [List.getElem?_toArray, List.getElem?_cons_succ, List.getElem?_cons_zero]); rfl) ?_
                          ((refine q_appSSS (d := some 81) rfl (hP'.ext hZ) rfl hB80 hv80 (by omega) (by have := hEt.size; have := hZ.size; omega) ?_; intro v81 W81 hO81 hm81 hgr81 h781; have hEu := hm81 _ (hEt.trans hZ); have f1 := Ext.cell_some hEu e10; have f2 := Ext.cell_some hEu e20))
                          clear hHeld; refine t_next ?_ (fun hHeld => ?_)
                          · (first | exact True.intro | ((try dsimp only); (repeat' apply And.intro) <;> first | assumption | (refine Ext.cell_some (Ext.todrew (Ext.refl _)) ?_; assumption)))
                          (try simp only [Act.put, List.setIfInBounds_toArray, List.set_cons_zero, List.set_cons_succ])
                          refine t_take (i := 15) (v := ?_) (by (simp only [List.getElem?_toArray, List.getElem?_cons_succ, List.getElem?_cons_zero]); rfl) (by rfl) ?_ (by exact hHeld) ?_
                          rotate_left
                          · (intro wq hSw; (try dsimp only at hSw); go_simp; (try with_reducible rfl))
                          (try simp only [Act.put, List.setIfInBounds_toArray, List.set_cons_zero, List.set_cons_succ])
                          refine t_done ?_
                          (go_wp2; go_roundw; (case rel => exact ⟨hEu, m + 1, by omega, by go_num, by rw [Hss.out]; exact hO81⟩); (case measure => simp [intOf]; omega))
                        · (((with_reducible refine q_bsI (d := some 78) (n := can[m]) ?_ ?_); rfl; intro W78 g78 hE78 hB78 hg78; have hZ78 := (hZ.trans hE78).size; (try have hne : g78 ≠ g68 := by have := hB68.lt; omega); replace hZ := hZ.trans hE78; have f1 := Ext.cell_some hZ e1; have f2 := Ext.cell_some hZ e2; (try replace hB68 := hB68.ext hE78); (try replace hO73 := hO73.ext hE78)))
                          clear hHeld; refine t_next ?_ (fun hHeld => ?_)
                          · (first | exact True.intro | ((try dsimp only); (repeat' apply And.intro) <;> first | assumption | (refine Ext.cell_some (Ext.todrew (Ext.refl _)) ?_; assumption)))
                          (try simp only [Act.put, List.setIfInBounds_toArray, List.set_cons_zero, List.set_cons_succ])
                          refine t_one (i := 6) (by (simp only [List.getElem?_toArray, List.getElem?_cons_succ, List.getElem?_cons_zero]); rfl) ?_
                          ((refine q_appII (d := some 73) rfl (OwnI.of_blk0 hB68 hq68) rfl (hu.ints.ext hZ) (by have := Hul.out; simp; omega) hZ.size ?_; intro v73 W73 hO73 hm73 hgr73; replace hZ := (show Ext _ W73 from Below.mono (hm73 _ hZ) (Nat.le_refl _)); have f1 := Ext.cell_some hZ e1; have f2 := Ext.cell_some hZ e2; (try replace hB78 := hB78.grown hgr73 (show some g78 ≠ some g68 from fun e => hne (Option.some.inj e)))))
                          clear hHeld; refine t_next ?_ (fun hHeld => ?_)
                          · (first | exact True.intro | ((try dsimp only); (repeat' apply And.intro) <;> first | assumption | (refine Ext.cell_some (Ext.todrew (Ext.refl _)) ?_; assumption)))
                          (try simp only [Act.put, List.setIfInBounds_toArray, List.set_cons_zero, List.set_cons_succ])
                          refine t_one (i := 12) (by (simp only [List.getElem?_toArray, List.getElem?_cons_succ, List.getElem?_cons_zero]); rfl) ?_
                          ((refine q_appII (d := some 79) rfl hO73 rfl (OwnI.of_blk (B := 0) hB78 (Nat.zero_le _)).ints (by have := Hul.out; simp; omega) hZ.size ?_; intro v79 W79 hO79 hm79 hgr79; replace hZ := (show Ext _ W79 from Below.mono (hm79 _ hZ) (Nat.le_refl _)); have f1 := Ext.cell_some hZ e1; have f2 := Ext.cell_some hZ e2; obtain ⟨A79, c79, e79, _, _, _⟩ := hO79.ints; subst e79))
                          clear hHeld; refine t_next ?_ (fun hHeld => ?_)
                          · (first | exact True.intro | ((try dsimp only); (repeat' apply And.intro) <;> first | assumption | (refine Ext.cell_some (Ext.todrew (Ext.refl _)) ?_; assumption)))
                          (try simp only [Act.put, List.setIfInBounds_toArray, List.set_cons_zero, List.set_cons_succ])
                          refine t_one (i := 13) (by (simp only [List.getElem?_toArray, List.getElem?_cons_succ, List.getElem?_cons_zero]); rfl) ?_
                          (((with_reducible refine q_bsSS (d := some 80) (A := A79) (n := (([] ++ l[k]) ++ [can[m]]).length) (c := c79) ?_ ?_); rfl; intro W80 g80 hE80 hB80 hg80; replace hZ := hZ.trans hE80; have f1 := Ext.cell_some hZ e1; have f2 := Ext.cell_some hZ e2; have hv80 := (IntB.of_own hO79).ext hE80))
                          clear hHeld; refine t_next ?_ (fun hHeld => ?_)
                          · (first | exact True.intro | ((try dsimp only); (repeat' apply And.intro) <;> first | assumption | (refine Ext.cell_some (Ext.todrew (Ext.refl _)) ?_; assumption)))
                          (try simp only [Act.put, List.setIfInBounds_toArray, List.set_cons_zero, List.set_cons_succ])
                          refine t_one (i := 14) (by (simp only [List.getElem?_toArray, List.getElem?_cons_succ, List.getElem?_cons_zero]); rfl) ?_
                          ((refine q_appSSS (d := some 81) rfl (hP'.ext hZ) rfl hB80 hv80 (by omega) (by have := hEt.size; have := hZ.size; omega) ?_; intro v81 W81 hO81 hm81 hgr81 h781; have hEu := hm81 _ (hEt.trans hZ); have f1 := Ext.cell_some hEu e10; have f2 := Ext.cell_some hEu e20))
                          clear hHeld; refine t_next ?_ (fun hHeld => ?_)
                          · (first | exact True.intro | ((try dsimp only); (repeat' apply And.intro) <;> first | assumption | (refine Ext.cell_some (Ext.todrew (Ext.refl _)) ?_; assumption)))
                          (try simp only [Act.put, List.setIfInBounds_toArray, List.set_cons_zero, List.set_cons_succ])
                          refine t_take (i := 15) (v := ?_) (by (simp only [List.getElem?_toArray, List.getElem?_cons_succ, List.getElem?_cons_zero]); rfl) (by rfl) ?_ (by exact hHeld) ?_
                          rotate_left
                          · (intro wq hSw; (try dsimp only at hSw); go_simp; (try with_reducible rfl))
                          (try simp only [Act.put, List.setIfInBounds_toArray, List.set_cons_zero, List.set_cons_succ])
                          refine t_done ?_
                          (go_wp2; go_roundw; (case rel => exact ⟨hEu, m + 1, by omega, by go_num, by rw [Hss.out]; exact hO81⟩); (case measure => simp [intOf]; omega))
                      · (((with_reducible refine q_bsI (d := some 78) (n := can[m]) ?_ ?_); rfl; intro W78 g78 hE78 hB78 hg78; have hZ78 := (hZ.trans hE78).size; (try have hne : g78 ≠ g68 := by have := hB68.lt; omega); replace hZ := hZ.trans hE78; have f1 := Ext.cell_some hZ e1; have f2 := Ext.cell_some hZ e2; (try replace hB68 := hB68.ext hE78); (try replace hO73 := hO73.ext hE78)))
                        clear hHeld; refine t_next ?_ (fun hHeld => ?_)
                        · (first | exact True.intro | ((try dsimp only); (repeat' apply And.intro) <;> first | assumption | (refine Ext.cell_some (Ext.todrew (Ext.refl _)) ?_; assumption)))
                        (try simp only [Act.put, List.setIfInBounds_toArray, List.set_cons_zero, List.set_cons_succ])
                        refine t_one (i := 1) (by (simp only [List.getElem?_toArray, List.getElem?_cons_succ, List.getElem?_cons_zero]); rfl) ?_
                        (((with_reducible refine q_bs0 (d := some 68) ?_); intro W68 g68 hE68 hB68 hg68; (try have hne : g78 ≠ g68 := by have := hB78.lt; omega); replace hZ := hZ.trans hE68; have f1 := Ext.cell_some hZ e1; have f2 := Ext.cell_some hZ e2; (try replace hB78 := hB78.ext hE68); have hq68 : wr.heap.size ≤ g68 := Nat.le_trans (by first | exact hZ78 | exact Nat.le_refl _) hg68))
                        clear hHeld; refine t_next ?_ (fun hHeld => ?_)
                        · (first | exact True.intro | ((try dsimp only); (repeat' apply And.intro) <;> first | assumption | (refine Ext.cell_some (Ext.todrew (Ext.refl _)) ?_; assumption)))
                        (try simp only [Act.put, List.setIfInBounds_toArray, List.set_cons_zero, List.set_cons_succ])
                        refine t_one (i := 6) (by (simp only [List.getElem?_toArray, List.getElem?_cons_succ, List.getElem?_cons_zero]); rfl) ?_
                        ((refine q_appII (d := some 73) rfl (OwnI.of_blk0 hB68 hq68) rfl (hu.ints.ext hZ) (by have := Hul.out; simp; omega) hZ.size ?_; intro v73 W73 hO73 hm73 hgr73; replace hZ := (show Ext _ W73 from Below.mono (hm73 _ hZ) (Nat.le_refl _)); have f1 := Ext.cell_some hZ e1; have f2 := Ext.cell_some hZ e2; (try replace hB78 := hB78.grown hgr73 (show some g78 ≠ some g68 from fun e => hne (Option.some.inj e)))))
                        clear hHeld; refine t_next ?_ (fun hHeld => ?_)
                        · (first | exact True.intro | ((try dsimp only); (repeat' apply And.intro) <;> first | assumption | (refine Ext.cell_some (Ext.todrew (Ext.refl _)) ?_; assumption)))
                        (try simp only [Act.put, List.setIfInBounds_toArray, List.set_cons_zero, List.set_cons_succ])
                        refine t_one (i := 12) (by (simp only [List.getElem?_toArray, List.getElem?_cons_succ, List.getElem?_cons_zero]); rfl) ?_
                        ((refine q_appII (d := some 79) rfl hO73 rfl (OwnI.of_blk (B := 0) hB78 (Nat.zero_le _)).ints (by have := Hul.out; simp; omega) hZ.size ?_; intro v79 W79 hO79 hm79 hgr79; replace hZ := (show Ext _ W79 from Below.mono (hm79 _ hZ) (Nat.le_refl _)); have f1 := Ext.cell_some hZ e1; have f2 := Ext.cell_some hZ e2; obtain ⟨A79, c79, e79, _, _, _⟩ := hO79.ints; subst e79))
                        clear hHeld; refine t_next ?_ (fun hHeld => ?_)
                        · (first | exact True.intro | ((try dsimp only); (repeat' apply And.intro) <;> first | assumption | (refine Ext.cell_some (Ext.todrew (Ext.refl _)) ?_; assumption)))
                        (try simp only [Act.put, List.setIfInBounds_toArray, List.set_cons_zero, List.set_cons_succ])
                        refine t_one (i := 13) (by (simp only [List.getElem?_toArray, List.getElem?_cons_succ, List.getElem?_cons_zero]); rfl) ?_
                        (((with_reducible refine q_bsSS (d := some 80) (A := A79) (n := (([] ++ l[k]) ++ [can[m]]).length) (c := c79) ?_ ?_); rfl; intro W80 g80 hE80 hB80 hg80; replace hZ := hZ.trans hE80; have f1 := Ext.cell_some hZ e1; have f2 := Ext.cell_some hZ e2; have hv80 := (IntB.of_own hO79).ext hE80))
                        clear hHeld; refine t_next ?_ (fun hHeld => ?_)
                        · (first | exact True.intro | ((try dsimp only); (repeat' apply And.intro) <;> first | assumption | (refine Ext.cell_some (Ext.todrew (Ext.refl _)) ?_; assumption)))
                        (try simp only [Act.put, List.setIfInBounds_toArray, List.set_cons_zero, List.set_cons_succ])
                        refine t_one (i := 14) (by (simp only [List.getElem?_toArray, List.getElem?_cons_succ, List.getElem?_cons_zero]); rfl) ?_
                        ((refine q_appSSS (d := some 81) rfl (hP'.ext hZ) rfl hB80 hv80 (by omega) (by have := hEt.size; have := hZ.size; omega) ?_; intro v81 W81 hO81 hm81 hgr81 h781; have hEu := hm81 _ (hEt.trans hZ); have f1 := Ext.cell_some hEu e10; have f2 := Ext.cell_some hEu e20))
                        clear hHeld; refine t_next ?_ (fun hHeld => ?_)
                        · (first | exact True.intro | ((try dsimp only); (repeat' apply And.intro) <;> first | assumption | (refine Ext.cell_some (Ext.todrew (Ext.refl _)) ?_; assumption)))
                        (try simp only [Act.put, List.setIfInBounds_toArray, List.set_cons_zero, List.set_cons_succ])
                        refine t_take (i := 15) (v := ?_) (by (simp only [List.getElem?_toArray, List.getElem?_cons_succ, List.getElem?_cons_zero]); rfl) (by rfl) ?_ (by exact hHeld) ?_
                        rotate_left
                        · (intro wq hSw; (try dsimp only at hSw); go_simp; (try with_reducible rfl))
                        (try simp only [Act.put, List.setIfInBounds_toArray, List.set_cons_zero, List.set_cons_succ])
                        refine t_done ?_
                        (go_wp2; go_roundw; (case rel => exact ⟨hEu, m + 1, by omega, by go_num, by rw [Hss.out]; exact hO81⟩); (case measure => simp [intOf]; omega))
                    · obtain rfl : m = can.length := by omega
                      rw [moreJ_all hkt] at hP'
                      go_wp2
                      go_roundw
                      case rel => exact ⟨hEt, k + 1, by omega, by go_num, hP'⟩
                      case measure => simp [intOf]; omega
                · obtain rfl : k = l.length := by omega
                  have hps := prods_succ c s.kept n
                  rw [Hl.out, Hcan.out] at hps
                  go_wp2
                  go_roundw
                  case rel => exact ⟨HEn.out.trans hEs, n + 1, by omega, by go_num, by rw [hps]; exact hP.base (HE0.out.trans HEn.out).size⟩
                  case measure => simp [intOf]; omega
    · have hnn : n = s.lines.toNat := by omega
      rw [hnn] at hl
      obtain ⟨A5, c5, rfl, q1, q2⟩ := hO.ss.len
      unfold maxLen at q2
      have Hl := Lib.hid hl
      have Hnn := Lib.hid hnn
      clear hl hnn h4
      go_wp2
      obtain ⟨Wl, hWl⟩ : ∃ W, W = wr := ⟨_, rfl⟩
      subst hWl
      go_loopw [13, 14] (fun v i wr => Ext Wl wr ∧ ∃ k : Nat, k ≤ l.length ∧ i = .int .i64 k ∧ OwnSS Wl.heap.size wr v (testsTo c s l k)) (fun _ i _ => l.length - (intOf i).toNat)
      case atStart => exact ⟨Ext.refl _, 0, by omega, rfl, OwnSS.nil _ _⟩
      case round =>
        obtain ⟨hEt, k, hk, rfl, hT⟩ := hrel
        have d20 := Ext.cell_some hEt c20; have d21 := Ext.cell_some hEt c21; have d22 := Ext.cell_some hEt c22
        have d30 := Ext.cell_some hEt c30; have d31 := Ext.cell_some hEt c31
        have kF := hF.ext hEt; have kM := hM.ext hEt; have kK := hK.ext hEt
        have HF := Lib.hid hF; have HM := Lib.hid hM; have HK := Lib.hid hK; have H20 := Lib.hid c20; have H21 := Lib.hid c21; have H22 := Lib.hid c22; have H30 := Lib.hid c30; have H31 := Lib.hid c31
        clear hF hM hK c20 c21 c22 c30 c31
        have Htl := Lib.hid (testsTo_len c s l k)
        by_cases hkt : k < l.length
        · obtain ⟨ad5, u, rfl, e10, hu0⟩ := hO.ss.at_ hkt
          have e1 := Ext.cell_some hEt e10
          have hu := hu0.ext hEt
          obtain ⟨Au, cu, rfl, hu1, hu2, _⟩ := hu.ints
          obtain ⟨p1, p2⟩ := prods_ok Hs.out.line _ _ (by rw [Hl.out]; exact List.getElem_mem hkt)
          have Htk : Hid (c.TestOk l[k]) := ⟨by omega, p2⟩
          have hts := testsTo_succ c s l hkt
          clear p1 p2 e10 hu0 hO
          by_cases hp : fits c s l[k] = true
          · rw [if_pos hp] at hts
            have Hts := Lib.hid hts
            clear hts
            go_wp2_with fail
            go_region_held3 (fun w' => w'.cell? ⟨g2, 0, none⟩ = some (fv) ∧ w'.cell? ⟨g2, 1, none⟩ = some (mv) ∧ w'.cell? ⟨g2, 2, none⟩ = some (.int .i64 c.all) ∧ w'.cell? ⟨g3, 0, none⟩ = some (.int .i64 s.lines) ∧ w'.cell? ⟨g3, 1, none⟩ = some (.slice A s.kept.length cp) ∧ w'.cell? (ad5.add k) = some (.slice Au l[k].length cu)) (simp [*]) ((first | (go_at_call 45; ((with_reducible refine (RFit_any _ _ _ c s l[k] _ (by first | exact CodeV.of kF kM HW.out | exact (CodeV.of kF kM HW.out).d) (by first | exact SheetV.of kK | exact (SheetV.of kK).d) (by first | exact hu.ints | exact (hu.ints).d) Ho.out Hs.out Htk.out).mono ?_); rintro e Wc1 ⟨rfl, hEc1⟩; (try replace hEc1 := Ext.undrew hEc1); (try replace hE := hE.trans hEc1); (try replace hEt := hEt.trans hEc1); (try replace kF := kF.ext hEc1); (try replace kM := kM.ext hEc1); (try replace kK := kK.ext hEc1); (try replace hu := hu.ext hEc1); (try replace hT := hT.ext hEc1); (try replace e1 := Ext.cell_some hEc1 e1); (try replace d20 := Ext.cell_some hEc1 d20); (try replace d21 := Ext.cell_some hEc1 d21); (try replace d22 := Ext.cell_some hEc1 d22); (try replace d30 := Ext.cell_some hEc1 d30); (try replace d31 := Ext.cell_some hEc1 d31)))))
            go_wp2_with (first | ((with_reducible refine q_bsSS (d := some 101) (A := Au) (n := l[k].length) (c := cu) ?_ ?_); rfl; intro W29 g29 hE29 hB29 hg29; replace hEt := hEt.trans hE29; replace hT := hT.ext hE29; replace hu := hu.ext hE29) | (refine q_appSSS (d := some 102) rfl hT rfl hB29 hu (by have := Htl.out; omega) (by have := hEt.size; omega) ?_; intro v' W30 hO' hmono hgr h7; replace hEt := hmono _ hEt))
            go_roundw
            case rel => exact ⟨hEt, k + 1, by omega, by go_num, by rw [Hts.out]; exact hO'⟩
            case measure => simp [intOf]; omega
          · rw [if_neg hp] at hts
            simp only [Bool.not_eq_true] at hp
            have Hts := Lib.hid hts
            clear hts
            go_wp2_with fail
            go_region_held3 (fun w' => w'.cell? ⟨g2, 0, none⟩ = some (fv) ∧ w'.cell? ⟨g2, 1, none⟩ = some (mv) ∧ w'.cell? ⟨g2, 2, none⟩ = some (.int .i64 c.all) ∧ w'.cell? ⟨g3, 0, none⟩ = some (.int .i64 s.lines) ∧ w'.cell? ⟨g3, 1, none⟩ = some (.slice A s.kept.length cp) ∧ w'.cell? (ad5.add k) = some (.slice Au l[k].length cu)) (simp [*]) ((first | (go_at_call 45; ((with_reducible refine (RFit_any _ _ _ c s l[k] _ (by first | exact CodeV.of kF kM HW.out | exact (CodeV.of kF kM HW.out).d) (by first | exact SheetV.of kK | exact (SheetV.of kK).d) (by first | exact hu.ints | exact (hu.ints).d) Ho.out Hs.out Htk.out).mono ?_); rintro e Wc2 ⟨rfl, hEc2⟩; (try replace hEc2 := Ext.undrew hEc2); (try replace hE := hE.trans hEc2); (try replace hEt := hEt.trans hEc2); (try replace kF := kF.ext hEc2); (try replace kM := kM.ext hEc2); (try replace kK := kK.ext hEc2); (try replace hu := hu.ext hEc2); (try replace hT := hT.ext hEc2); (try replace e1 := Ext.cell_some hEc2 e1); (try replace d20 := Ext.cell_some hEc2 d20); (try replace d21 := Ext.cell_some hEc2 d21); (try replace d22 := Ext.cell_some hEc2 d22); (try replace d30 := Ext.cell_some hEc2 d30); (try replace d31 := Ext.cell_some hEc2 d31)))))
            go_wp2
            go_roundw
            case rel => exact ⟨hEt, k + 1, by omega, by go_num, by rw [Hts.out]; exact hT⟩
            case measure => simp [intOf]; omega
        · obtain rfl : k = l.length := by omega
          have hr : tests c s = testsTo c s l l.length := by unfold tests testsTo; rw [Hl.out, List.take_length]
          have Hr := Lib.hid hr
          clear hr
          go_wp2
          go_ret
          exact ⟨_, rfl, by rw [Hr.out]; exact hT.base (HE0.out.trans hEr).size, (HE0.out.trans hEr).trans hEt⟩
end Go.Bp
end
section
/- Plain Lean: small laws for the callers of Tests. -/
namespace Go.Bp
open Go.RowKit
theorem risingFrom_zero {p : Int → Bool} : ∀ {l : List Int} {prev : Option Int}, risingFrom p prev l = 0 → ∀ x ∈ l, p x = true
  | [], _, _, x, hx => by simp at hx
  | y :: l, prev, h, x, hx => by
    unfold risingFrom at h
    split at h
    · cases h
    · rename_i h1
      split at h
      · cases h
      · rcases List.mem_cons.1 hx with e | hx
        · rw [e]; simpa using h1
        · exact risingFrom_zero h x hx
theorem rising_zero {p : Int → Bool} {l : List Int} (h : rising p l = 0) : ∀ x ∈ l, p x = true := risingFrom_zero h
theorem mem_lost {s : Sheet} {n : Int} (h : n ∈ s.lost) : 1 ≤ n ∧ n ≤ s.lines.toNat := by
  unfold Sheet.lost at h
  exact mem_numbers.1 (List.mem_filter.1 h).1
theorem rising_lost {s : Sheet} {ls : List Int} (h : rising (hasB s.lost) ls = 0) : ∀ n ∈ ls, 1 ≤ n ∧ n ≤ s.lines.toNat := by
  intro n hn
  have := rising_zero h n hn
  exact mem_lost (by simpa [hasB] using this)
theorem combos_sub (l : List Int) : ∀ m, ∀ t ∈ combos m l, ∀ x ∈ t, x ∈ l := by
  induction l with
  | nil => intro m t ht x hx; cases m <;> simp [combos] at ht; subst ht; simp at hx
  | cons y l ih =>
    intro m t ht x hx
    cases m with
    | zero => simp [combos] at ht; subst ht; simp at hx
    | succ m =>
      simp only [combos, List.mem_append, List.mem_map] at ht
      rcases ht with ⟨u, hu, rfl⟩ | ht
      · rcases List.mem_cons.1 hx with e | hx
        · simp [e]
        · simp [ih m u hu x hx]
      · simp [ih (m + 1) t ht x hx]
theorem fitting_e {c : Code} {s : Sheet} (h : s.asked c ≠ 0) : fittingErr c s = s.asked c := by unfold fittingErr; rw [if_pos h]
theorem fitting_9 {c : Code} {s : Sheet} (h : s.asked c = 0) (h2 : tests c s = []) : fittingErr c s = 9 := by unfold fittingErr; rw [if_neg (by simp [h]), if_pos h2]
theorem fitting_0 {c : Code} {s : Sheet} (h : s.asked c = 0) (h2 : tests c s ≠ []) : fittingErr c s = 0 := by unfold fittingErr; rw [if_neg (by simp [h]), if_neg h2]
/-- Some, and all, of the first k tests. -/
def someTo (c : Code) (ts : List (List Int)) (k : Nat) : Bool := (ts.take k).any c.passed
def everyTo (c : Code) (ts : List (List Int)) (k : Nat) : Bool := (ts.take k).all c.passed
theorem someTo_succ (c : Code) (ts : List (List Int)) {k : Nat} (hk : k < ts.length) : someTo c ts (k + 1) = (someTo c ts k || c.passed ts[k]) := by
  unfold someTo; rw [take_snoc _ hk, List.any_append]; simp
theorem everyTo_succ (c : Code) (ts : List (List Int)) {k : Nat} (hk : k < ts.length) : everyTo c ts (k + 1) = (everyTo c ts k && c.passed ts[k]) := by
  unfold everyTo; rw [take_snoc _ hk, List.all_append]; simp
theorem outcome_1 {c : Code} {s : Sheet} (h : everyTo c (tests c s) (tests c s).length = true) : outcomeOf c s = 1 := by
  unfold everyTo at h; rw [List.take_length] at h; unfold outcomeOf; rw [if_pos h]
theorem outcome_2 {c : Code} {s : Sheet} (h : everyTo c (tests c s) (tests c s).length = false) (h2 : someTo c (tests c s) (tests c s).length = true) : outcomeOf c s = 2 := by
  unfold everyTo at h; unfold someTo at h2; rw [List.take_length] at h h2; unfold outcomeOf; rw [if_neg (by rw [h]; simp), if_pos h2]
theorem outcome_0 {c : Code} {s : Sheet} (h : everyTo c (tests c s) (tests c s).length = false) (h2 : someTo c (tests c s) (tests c s).length = false) : outcomeOf c s = 0 := by
  unfold everyTo at h; unfold someTo at h2; rw [List.take_length] at h h2; unfold outcomeOf; rw [if_neg (by rw [h]; simp), if_neg (by rw [h2]; simp)]
theorem show_some {c : Code} {s : Sheet} {b : Bool} {k : Nat} (h : fittingErr c s = 0) (hk : k < (tests c s).length) (hp : c.passed (tests c s)[k] = b) (hb : ∀ t ∈ (tests c s).take k, c.passed t ≠ b) : showAns c s b = ((tests c s)[k], 0) := by
  unfold showAns showOf
  rw [if_neg (by simp [h]), find_at hk (by simp [hp]) (fun t ht => by simp [hb t ht])]
theorem show_none {c : Code} {s : Sheet} {b : Bool} (h : fittingErr c s = 0) (hb : ∀ t ∈ tests c s, c.passed t ≠ b) : showAns c s b = ([], 4) := by
  unfold showAns showOf
  rw [if_neg (by simp [h]), List.find?_eq_none.2 (fun t ht => by simp [hb t ht])]
theorem show_e {c : Code} {s : Sheet} {b : Bool} (h : fittingErr c s ≠ 0) : showAns c s b = ([], fittingErr c s) := by unfold showAns; rw [if_pos h]
theorem fewest_found {c : Code} {s : Sheet} {l : List Int} {m : Nat} (h : fittingErr c s = 0) (hm : m ≤ s.lost.length) (hb : ∀ j, j < m → ∀ x ∈ combos j s.lost, enough c (tests c s) x = false) (hf : (combos m s.lost).find? (enough c (tests c s)) = some l) : fewestAns c s = (l, 0) := by
  unfold fewestAns fewestOf
  rw [if_neg (by simp [h]), fewestBy_some hm hb hf]; rfl
theorem fewest_all {c : Code} {s : Sheet} (h : fittingErr c s = 0) (hb : ∀ j, j < s.lost.length → ∀ x ∈ combos j s.lost, enough c (tests c s) x = false) : fewestAns c s = (s.lost, 0) := by
  unfold fewestAns fewestOf
  rw [if_neg (by simp [h])]
  cases hq : enough c (tests c s) s.lost with
  | true => rw [fewestBy_some (l := s.lost) (Nat.le_refl _) hb (by rw [combos_self]; simp [hq])]; rfl
  | false =>
    rw [fewestBy_none]
    · rfl
    · intro j hj x hx
      by_cases e : j = s.lost.length
      · subst e; rw [combos_self] at hx; simp at hx; rw [hx]; exact hq
      · exact hb j (by omega) x hx
theorem fewest_e {c : Code} {s : Sheet} (h : fittingErr c s ≠ 0) : fewestAns c s = ([], fittingErr c s) := by unfold fewestAns; rw [if_pos h]
theorem appeal_found {c : Code} {t l : List Int} {m : Nat} (h : c.whole t = 0) (hm : m ≤ t.length) (hb : ∀ j, j < m → ∀ x ∈ combos j (numbers t.length), helps c t x = false) (hf : (combos m (numbers t.length)).find? (helps c t) = some l) : appealAns c t = (l, 0) := by
  unfold appealAns
  rw [if_neg (by simp [h]), fewestBy_some (by rw [numbers_len]; exact hm) hb hf]
theorem appeal_none {c : Code} {t : List Int} (h : c.whole t = 0) (hb : ∀ j, j ≤ t.length → ∀ x ∈ combos j (numbers t.length), helps c t x = false) : appealAns c t = ([], 9) := by
  unfold appealAns
  rw [if_neg (by simp [h]), fewestBy_none (fun j hj => hb j (by rw [numbers_len] at hj; exact hj))]
theorem appeal_e {c : Code} {t : List Int} (h : c.whole t ≠ 0) : appealAns c t = ([], c.whole t) := by unfold appealAns; rw [if_pos h]
theorem left_ok {c : Code} {t ls : List Int} (ht : c.TestOk t) : c.TestOk (without c t ls).1 := by
  refine ⟨?_, fun x hx => ?_⟩
  · have h1 := leftTo_len c t ls t.length
    have h2 := ht.1
    have : (without c t ls).1 = leftTo c t ls t.length := rfl
    rw [this]; omega
  · have : (without c t ls).1 = leftTo c t ls t.length := rfl
    rw [this] at hx
    unfold leftTo at hx
    obtain ⟨i, hi, rfl⟩ := List.mem_map.1 hx
    have hi := List.mem_range.1 (List.mem_filter.1 hi).1
    have : t.getD i 0 = t[i] := by simp [List.getD, hi]
    rw [this]; exact ht.at hi
end Go.Bp
end
section
set_option maxRecDepth 100000
set_option linter.unusedSimpArgs false
set_option linter.unusedVariables false
namespace Go.Bp
open Go.RowKit Go.Proofs
/-- Two numbers. -/
def RetII (w : World) (a b : Int) (e : Ending) (w' : World) : Prop := e = .returned (.tuple #[.int .i64 a, .int .i64 b]) ∧ Ext w w'
/-- A slice of numbers, and a number. -/
def RetOI (w : World) (xs : List Int) (b : Int) (e : Ending) (w' : World) : Prop := ∃ v, e = .returned (.tuple #[v, .int .i64 b]) ∧ IntB w' v xs ∧ Ext w w'
theorem len_zero_t {α : Type} {l : List α} (h : l = []) : ((l.length : Int) == 0) = true := by simp [h]
theorem len_zero_f {α : Type} {l : List α} (h : l ≠ []) : ((l.length : Int) == 0) = false := by cases l with | nil => exact absurd rfl h | cons x l => simp; omega
set_option maxHeartbeats 2000000 in
theorem Rfitting_any (cv sv : Value) (c : Code) (s : Sheet) (w : World) (h : CodeV w cv c) (hsv : SheetV w sv s) :
    Calls Tryz.prog 78 #[cv, sv] w fun e w' => e = .returned (.int .i64 (fittingErr c s)) ∧ Ext w w' := by
  obtain ⟨fv, mv, rfl, hF, hM, hW⟩ := h
  obtain ⟨kv, rfl, hK⟩ := hsv
  have hE := Ext.refl w
  have HW := Lib.hid hW
  clear hW
  by_cases ha : s.asked c = 0
  · obtain ⟨ho, hs⟩ := asked_zero ha
    have Ho := Lib.hid ho; have Hs := Lib.hid hs
    have q1 : (s.asked c == 0) = true := by simp [ha]
    by_cases hn : tests c s = []
    · have q2 := len_zero_t hn
      have Hr := Lib.hid (fitting_9 ha hn)
      clear ha hn ho hs
      go_enter Tryz.func78, Tryz.ntmps78
      go_wp2_with (first | (go_at_call 74; ((with_reducible refine (Rasked_any _ _ c s _ (by exact CodeV.of hF hM HW.out) (by exact SheetV.of hK)).mono ?_); rintro e Wc1 ⟨rfl, hEc1⟩; (try replace hEc1 := Ext.undrew hEc1); (try replace hE := hE.trans hEc1); (try replace hF := hF.ext hEc1); (try replace hM := hM.ext hEc1); (try replace hK := hK.ext hEc1); (try replace hB2 := hB2.ext hEc1); (try replace hB3 := hB3.ext hEc1); (try replace hb2_0 := Ext.cell_some hEc1 hb2_0); (try replace hb2_1 := Ext.cell_some hEc1 hb2_1); (try replace hb2_2 := Ext.cell_some hEc1 hb2_2); (try replace hb3_0 := Ext.cell_some hEc1 hb3_0); (try replace hb3_1 := Ext.cell_some hEc1 hb3_1))) | (go_at_call 75; ((with_reducible refine (Rtests_any _ _ c s _ (by exact CodeV.of hF hM HW.out) (by exact SheetV.of hK) Ho.out Hs.out).mono ?_); rintro e Wc2 ⟨v75, rfl, hO75, hEc2⟩; (try replace hEc2 := Ext.undrew hEc2); (try replace hE := hE.trans hEc2); (try replace hF := hF.ext hEc2); (try replace hM := hM.ext hEc2); (try replace hK := hK.ext hEc2); (try replace hB2 := hB2.ext hEc2); (try replace hB3 := hB3.ext hEc2); (try replace hb2_0 := Ext.cell_some hEc2 hb2_0); (try replace hb2_1 := Ext.cell_some hEc2 hb2_1); (try replace hb2_2 := Ext.cell_some hEc2 hb2_2); (try replace hb3_0 := Ext.cell_some hEc2 hb3_0); (try replace hb3_1 := Ext.cell_some hEc2 hb3_1); obtain ⟨A75, c75, rfl, _, _⟩ := hO75.ss.len)) | ((with_reducible refine q_box (d := some 2) ?_); intro W2 g2 hE2 hB2 hg2; simp [Act.eval, Act.put, Value.cells] at hB2; (try replace hE := hE.trans hE2); (try replace hF := hF.ext hE2); (try replace hM := hM.ext hE2); (try replace hK := hK.ext hE2); (try replace hB2 := hB2.ext hE2); (try replace hB3 := hB3.ext hE2); (try replace hb2_0 := Ext.cell_some hE2 hb2_0); (try replace hb2_1 := Ext.cell_some hE2 hb2_1); (try replace hb2_2 := Ext.cell_some hE2 hb2_2); (try replace hb3_0 := Ext.cell_some hE2 hb3_0); (try replace hb3_1 := Ext.cell_some hE2 hb3_1); have hb2_0 := hB2.cell 0; have hb2_1 := hB2.cell 1; have hb2_2 := hB2.cell 2; simp at hb2_0 hb2_1 hb2_2; clear hE2) | ((with_reducible refine q_box (d := some 3) ?_); intro W3 g3 hE3 hB3 hg3; simp [Act.eval, Act.put, Value.cells] at hB3; (try replace hE := hE.trans hE3); (try replace hF := hF.ext hE3); (try replace hM := hM.ext hE3); (try replace hK := hK.ext hE3); (try replace hB2 := hB2.ext hE3); (try replace hB3 := hB3.ext hE3); (try replace hb2_0 := Ext.cell_some hE3 hb2_0); (try replace hb2_1 := Ext.cell_some hE3 hb2_1); (try replace hb2_2 := Ext.cell_some hE3 hb2_2); (try replace hb3_0 := Ext.cell_some hE3 hb3_0); (try replace hb3_1 := Ext.cell_some hE3 hb3_1); have hb3_0 := hB3.cell 0; have hb3_1 := hB3.cell 1; simp at hb3_0 hb3_1; clear hE3))
      go_ret
      exact ⟨ret_i Hr.out.symm, hE⟩
    · have q2 := len_zero_f hn
      have Hr := Lib.hid (fitting_0 ha hn)
      have Ha := Lib.hid ha
      clear ha hn ho hs
      go_enter Tryz.func78, Tryz.ntmps78
      go_wp2_with (first | (go_at_call 74; ((with_reducible refine (Rasked_any _ _ c s _ (by exact CodeV.of hF hM HW.out) (by exact SheetV.of hK)).mono ?_); rintro e Wc3 ⟨rfl, hEc3⟩; (try replace hEc3 := Ext.undrew hEc3); (try replace hE := hE.trans hEc3); (try replace hF := hF.ext hEc3); (try replace hM := hM.ext hEc3); (try replace hK := hK.ext hEc3); (try replace hB2 := hB2.ext hEc3); (try replace hB3 := hB3.ext hEc3); (try replace hb2_0 := Ext.cell_some hEc3 hb2_0); (try replace hb2_1 := Ext.cell_some hEc3 hb2_1); (try replace hb2_2 := Ext.cell_some hEc3 hb2_2); (try replace hb3_0 := Ext.cell_some hEc3 hb3_0); (try replace hb3_1 := Ext.cell_some hEc3 hb3_1))) | (go_at_call 75; ((with_reducible refine (Rtests_any _ _ c s _ (by exact CodeV.of hF hM HW.out) (by exact SheetV.of hK) Ho.out Hs.out).mono ?_); rintro e Wc4 ⟨v75, rfl, hO75, hEc4⟩; (try replace hEc4 := Ext.undrew hEc4); (try replace hE := hE.trans hEc4); (try replace hF := hF.ext hEc4); (try replace hM := hM.ext hEc4); (try replace hK := hK.ext hEc4); (try replace hB2 := hB2.ext hEc4); (try replace hB3 := hB3.ext hEc4); (try replace hb2_0 := Ext.cell_some hEc4 hb2_0); (try replace hb2_1 := Ext.cell_some hEc4 hb2_1); (try replace hb2_2 := Ext.cell_some hEc4 hb2_2); (try replace hb3_0 := Ext.cell_some hEc4 hb3_0); (try replace hb3_1 := Ext.cell_some hEc4 hb3_1); obtain ⟨A75, c75, rfl, _, _⟩ := hO75.ss.len)) | ((with_reducible refine q_box (d := some 2) ?_); intro W2 g2 hE2 hB2 hg2; simp [Act.eval, Act.put, Value.cells] at hB2; (try replace hE := hE.trans hE2); (try replace hF := hF.ext hE2); (try replace hM := hM.ext hE2); (try replace hK := hK.ext hE2); (try replace hB2 := hB2.ext hE2); (try replace hB3 := hB3.ext hE2); (try replace hb2_0 := Ext.cell_some hE2 hb2_0); (try replace hb2_1 := Ext.cell_some hE2 hb2_1); (try replace hb2_2 := Ext.cell_some hE2 hb2_2); (try replace hb3_0 := Ext.cell_some hE2 hb3_0); (try replace hb3_1 := Ext.cell_some hE2 hb3_1); have hb2_0 := hB2.cell 0; have hb2_1 := hB2.cell 1; have hb2_2 := hB2.cell 2; simp at hb2_0 hb2_1 hb2_2; clear hE2) | ((with_reducible refine q_box (d := some 3) ?_); intro W3 g3 hE3 hB3 hg3; simp [Act.eval, Act.put, Value.cells] at hB3; (try replace hE := hE.trans hE3); (try replace hF := hF.ext hE3); (try replace hM := hM.ext hE3); (try replace hK := hK.ext hE3); (try replace hB2 := hB2.ext hE3); (try replace hB3 := hB3.ext hE3); (try replace hb2_0 := Ext.cell_some hE3 hb2_0); (try replace hb2_1 := Ext.cell_some hE3 hb2_1); (try replace hb2_2 := Ext.cell_some hE3 hb2_2); (try replace hb3_0 := Ext.cell_some hE3 hb3_0); (try replace hb3_1 := Ext.cell_some hE3 hb3_1); have hb3_0 := hB3.cell 0; have hb3_1 := hB3.cell 1; simp at hb3_0 hb3_1; clear hE3))
      go_ret
      exact ⟨ret_i (by rw [Hr.out, Ha.out]), hE⟩
  · have q1 : (s.asked c == 0) = false := by simp [ha]
    have Hr := Lib.hid (fitting_e ha)
    clear ha
    go_enter Tryz.func78, Tryz.ntmps78
    go_wp2_with (first | (go_at_call 74; ((with_reducible refine (Rasked_any _ _ c s _ (by exact CodeV.of hF hM HW.out) (by exact SheetV.of hK)).mono ?_); rintro e Wc5 ⟨rfl, hEc5⟩; (try replace hEc5 := Ext.undrew hEc5); (try replace hE := hE.trans hEc5); (try replace hF := hF.ext hEc5); (try replace hM := hM.ext hEc5); (try replace hK := hK.ext hEc5); (try replace hB2 := hB2.ext hEc5); (try replace hB3 := hB3.ext hEc5); (try replace hb2_0 := Ext.cell_some hEc5 hb2_0); (try replace hb2_1 := Ext.cell_some hEc5 hb2_1); (try replace hb2_2 := Ext.cell_some hEc5 hb2_2); (try replace hb3_0 := Ext.cell_some hEc5 hb3_0); (try replace hb3_1 := Ext.cell_some hEc5 hb3_1))) | ((with_reducible refine q_box (d := some 2) ?_); intro W2 g2 hE2 hB2 hg2; simp [Act.eval, Act.put, Value.cells] at hB2; (try replace hE := hE.trans hE2); (try replace hF := hF.ext hE2); (try replace hM := hM.ext hE2); (try replace hK := hK.ext hE2); (try replace hB2 := hB2.ext hE2); (try replace hB3 := hB3.ext hE2); (try replace hb2_0 := Ext.cell_some hE2 hb2_0); (try replace hb2_1 := Ext.cell_some hE2 hb2_1); (try replace hb2_2 := Ext.cell_some hE2 hb2_2); (try replace hb3_0 := Ext.cell_some hE2 hb3_0); (try replace hb3_1 := Ext.cell_some hE2 hb3_1); have hb2_0 := hB2.cell 0; have hb2_1 := hB2.cell 1; have hb2_2 := hB2.cell 2; simp at hb2_0 hb2_1 hb2_2; clear hE2) | ((with_reducible refine q_box (d := some 3) ?_); intro W3 g3 hE3 hB3 hg3; simp [Act.eval, Act.put, Value.cells] at hB3; (try replace hE := hE.trans hE3); (try replace hF := hF.ext hE3); (try replace hM := hM.ext hE3); (try replace hK := hK.ext hE3); (try replace hB2 := hB2.ext hE3); (try replace hB3 := hB3.ext hE3); (try replace hb2_0 := Ext.cell_some hE3 hb2_0); (try replace hb2_1 := Ext.cell_some hE3 hb2_1); (try replace hb2_2 := Ext.cell_some hE3 hb2_2); (try replace hb3_0 := Ext.cell_some hE3 hb3_0); (try replace hb3_1 := Ext.cell_some hE3 hb3_1); have hb3_0 := hB3.cell 0; have hb3_1 := hB3.cell 1; simp at hb3_0 hb3_1; clear hE3))
    go_ret
    exact ⟨ret_i Hr.out.symm, hE⟩
set_option maxHeartbeats 2000000 in
theorem RFits_any (cv sv : Value) (c : Code) (s : Sheet) (w : World) (h : CodeV w cv c) (hsv : SheetV w sv s) :
    Calls Tryz.prog 29 #[cv, sv] w (RetII w (fitsAns c s).1 (fitsAns c s).2) := by
  obtain ⟨fv, mv, rfl, hF, hM, hW⟩ := h
  obtain ⟨kv, rfl, hK⟩ := hsv
  have hE := Ext.refl w
  have HW := Lib.hid hW
  clear hW
  by_cases ha : s.asked c = 0
  · obtain ⟨ho, hs⟩ := asked_zero ha
    have Ho := Lib.hid ho; have Hs := Lib.hid hs
    have q1 : (s.asked c != 0) = false := by simp [ha]
    have Hr := Lib.hid (show fitsAns c s = (((tests c s).length : Int), 0) by unfold fitsAns; rw [if_neg (by simp [ha])])
    clear ha ho hs
    rw [Hr.out]
    go_enter Tryz.func29, Tryz.ntmps29
    go_wp2_with (first | (go_at_call 74; ((with_reducible refine (Rasked_any _ _ c s _ (by exact CodeV.of hF hM HW.out) (by exact SheetV.of hK)).mono ?_); rintro e Wc1 ⟨rfl, hEc1⟩; (try replace hEc1 := Ext.undrew hEc1); (try replace hE := hE.trans hEc1); (try replace hF := hF.ext hEc1); (try replace hM := hM.ext hEc1); (try replace hK := hK.ext hEc1); (try replace hB2 := hB2.ext hEc1); (try replace hB3 := hB3.ext hEc1); (try replace hb2_0 := Ext.cell_some hEc1 hb2_0); (try replace hb2_1 := Ext.cell_some hEc1 hb2_1); (try replace hb2_2 := Ext.cell_some hEc1 hb2_2); (try replace hb3_0 := Ext.cell_some hEc1 hb3_0); (try replace hb3_1 := Ext.cell_some hEc1 hb3_1))) | (go_at_call 75; ((with_reducible refine (Rtests_any _ _ c s _ (by exact CodeV.of hF hM HW.out) (by exact SheetV.of hK) Ho.out Hs.out).mono ?_); rintro e Wc2 ⟨v75, rfl, hO75, hEc2⟩; (try replace hEc2 := Ext.undrew hEc2); (try replace hE := hE.trans hEc2); (try replace hF := hF.ext hEc2); (try replace hM := hM.ext hEc2); (try replace hK := hK.ext hEc2); (try replace hB2 := hB2.ext hEc2); (try replace hB3 := hB3.ext hEc2); (try replace hb2_0 := Ext.cell_some hEc2 hb2_0); (try replace hb2_1 := Ext.cell_some hEc2 hb2_1); (try replace hb2_2 := Ext.cell_some hEc2 hb2_2); (try replace hb3_0 := Ext.cell_some hEc2 hb3_0); (try replace hb3_1 := Ext.cell_some hEc2 hb3_1); obtain ⟨A75, c75, rfl, _, _⟩ := hO75.ss.len)) | ((with_reducible refine q_box (d := some 2) ?_); intro W2 g2 hE2 hB2 hg2; simp [Act.eval, Act.put, Value.cells] at hB2; (try replace hE := hE.trans hE2); (try replace hF := hF.ext hE2); (try replace hM := hM.ext hE2); (try replace hK := hK.ext hE2); (try replace hB2 := hB2.ext hE2); (try replace hB3 := hB3.ext hE2); (try replace hb2_0 := Ext.cell_some hE2 hb2_0); (try replace hb2_1 := Ext.cell_some hE2 hb2_1); (try replace hb2_2 := Ext.cell_some hE2 hb2_2); (try replace hb3_0 := Ext.cell_some hE2 hb3_0); (try replace hb3_1 := Ext.cell_some hE2 hb3_1); have hb2_0 := hB2.cell 0; have hb2_1 := hB2.cell 1; have hb2_2 := hB2.cell 2; simp at hb2_0 hb2_1 hb2_2; clear hE2) | ((with_reducible refine q_box (d := some 3) ?_); intro W3 g3 hE3 hB3 hg3; simp [Act.eval, Act.put, Value.cells] at hB3; (try replace hE := hE.trans hE3); (try replace hF := hF.ext hE3); (try replace hM := hM.ext hE3); (try replace hK := hK.ext hE3); (try replace hB2 := hB2.ext hE3); (try replace hB3 := hB3.ext hE3); (try replace hb2_0 := Ext.cell_some hE3 hb2_0); (try replace hb2_1 := Ext.cell_some hE3 hb2_1); (try replace hb2_2 := Ext.cell_some hE3 hb2_2); (try replace hb3_0 := Ext.cell_some hE3 hb3_0); (try replace hb3_1 := Ext.cell_some hE3 hb3_1); have hb3_0 := hB3.cell 0; have hb3_1 := hB3.cell 1; simp at hb3_0 hb3_1; clear hE3))
    go_ret2
    exact ⟨rfl, hE⟩
  · have q1 : (s.asked c != 0) = true := by simp [ha]
    have Hr := Lib.hid (show fitsAns c s = (0, s.asked c) by unfold fitsAns; rw [if_pos ha])
    clear ha
    rw [Hr.out]
    go_enter Tryz.func29, Tryz.ntmps29
    go_wp2_with (first | (go_at_call 74; ((with_reducible refine (Rasked_any _ _ c s _ (by exact CodeV.of hF hM HW.out) (by exact SheetV.of hK)).mono ?_); rintro e Wc3 ⟨rfl, hEc3⟩; (try replace hEc3 := Ext.undrew hEc3); (try replace hE := hE.trans hEc3); (try replace hF := hF.ext hEc3); (try replace hM := hM.ext hEc3); (try replace hK := hK.ext hEc3); (try replace hB2 := hB2.ext hEc3); (try replace hB3 := hB3.ext hEc3); (try replace hb2_0 := Ext.cell_some hEc3 hb2_0); (try replace hb2_1 := Ext.cell_some hEc3 hb2_1); (try replace hb2_2 := Ext.cell_some hEc3 hb2_2); (try replace hb3_0 := Ext.cell_some hEc3 hb3_0); (try replace hb3_1 := Ext.cell_some hEc3 hb3_1))) | ((with_reducible refine q_box (d := some 2) ?_); intro W2 g2 hE2 hB2 hg2; simp [Act.eval, Act.put, Value.cells] at hB2; (try replace hE := hE.trans hE2); (try replace hF := hF.ext hE2); (try replace hM := hM.ext hE2); (try replace hK := hK.ext hE2); (try replace hB2 := hB2.ext hE2); (try replace hB3 := hB3.ext hE2); (try replace hb2_0 := Ext.cell_some hE2 hb2_0); (try replace hb2_1 := Ext.cell_some hE2 hb2_1); (try replace hb2_2 := Ext.cell_some hE2 hb2_2); (try replace hb3_0 := Ext.cell_some hE2 hb3_0); (try replace hb3_1 := Ext.cell_some hE2 hb3_1); have hb2_0 := hB2.cell 0; have hb2_1 := hB2.cell 1; have hb2_2 := hB2.cell 2; simp at hb2_0 hb2_1 hb2_2; clear hE2) | ((with_reducible refine q_box (d := some 3) ?_); intro W3 g3 hE3 hB3 hg3; simp [Act.eval, Act.put, Value.cells] at hB3; (try replace hE := hE.trans hE3); (try replace hF := hF.ext hE3); (try replace hM := hM.ext hE3); (try replace hK := hK.ext hE3); (try replace hB2 := hB2.ext hE3); (try replace hB3 := hB3.ext hE3); (try replace hb2_0 := Ext.cell_some hE3 hb2_0); (try replace hb2_1 := Ext.cell_some hE3 hb2_1); (try replace hb2_2 := Ext.cell_some hE3 hb2_2); (try replace hb3_0 := Ext.cell_some hE3 hb3_0); (try replace hb3_1 := Ext.cell_some hE3 hb3_1); have hb3_0 := hB3.cell 0; have hb3_1 := hB3.cell 1; simp at hb3_0 hb3_1; clear hE3))
    go_ret2
    exact ⟨rfl, hE⟩
set_option maxHeartbeats 3000000 in
theorem ROutcome_any (cv sv : Value) (c : Code) (s : Sheet) (w : World) (h : CodeV w cv c) (hsv : SheetV w sv s) :
    Calls Tryz.prog 31 #[cv, sv] w (RetII w (outcomeAns c s).1 (outcomeAns c s).2) := by
  obtain ⟨fv, mv, rfl, hF, hM, hW⟩ := h
  obtain ⟨kv, rfl, hK⟩ := hsv
  have hE := Ext.refl w
  have HW := Lib.hid hW
  clear hW
  by_cases ha : fittingErr c s = 0
  · obtain ⟨ho, hs, hne⟩ := fittingErr_zero ha
    have Ho := Lib.hid ho; have Hs := Lib.hid hs
    have q1 : (fittingErr c s != 0) = false := by simp [ha]
    have Hr := Lib.hid (show outcomeAns c s = (outcomeOf c s, 0) by unfold outcomeAns; rw [if_neg (by simp [ha])])
    clear ha ho hs hne
    rw [Hr.out]
    go_enter Tryz.func31, Tryz.ntmps31
    go_wp2_with (first | (go_at_call 78; ((with_reducible refine (Rfitting_any _ _ c s _ (by exact CodeV.of hF hM HW.out) (by exact SheetV.of hK)).mono ?_); rintro e Wc1 ⟨rfl, hEc1⟩; (try replace hEc1 := Ext.undrew hEc1); (try replace hE := hE.trans hEc1); (try replace hF := hF.ext hEc1); (try replace hM := hM.ext hEc1); (try replace hK := hK.ext hEc1); (try replace hB2 := hB2.ext hEc1); (try replace hB3 := hB3.ext hEc1); (try replace hb2_0 := Ext.cell_some hEc1 hb2_0); (try replace hb2_1 := Ext.cell_some hEc1 hb2_1); (try replace hb2_2 := Ext.cell_some hEc1 hb2_2); (try replace hb3_0 := Ext.cell_some hEc1 hb3_0); (try replace hb3_1 := Ext.cell_some hEc1 hb3_1))) | (go_at_call 75; ((with_reducible refine (Rtests_any _ _ c s _ (by exact CodeV.of hF hM HW.out) (by exact SheetV.of hK) Ho.out Hs.out).mono ?_); rintro e Wc2 ⟨v75, rfl, hO75, hEc2⟩; (try replace hEc2 := Ext.undrew hEc2); (try replace hE := hE.trans hEc2); (try replace hF := hF.ext hEc2); (try replace hM := hM.ext hEc2); (try replace hK := hK.ext hEc2); (try replace hB2 := hB2.ext hEc2); (try replace hB3 := hB3.ext hEc2); (try replace hb2_0 := Ext.cell_some hEc2 hb2_0); (try replace hb2_1 := Ext.cell_some hEc2 hb2_1); (try replace hb2_2 := Ext.cell_some hEc2 hb2_2); (try replace hb3_0 := Ext.cell_some hEc2 hb3_0); (try replace hb3_1 := Ext.cell_some hEc2 hb3_1); obtain ⟨A75, c75, rfl, qa, qb⟩ := hO75.ss.len)) | ((with_reducible refine q_box (d := some 2) ?_); intro W2 g2 hE2 hB2 hg2; simp [Act.eval, Act.put, Value.cells] at hB2; (try replace hE := hE.trans hE2); (try replace hF := hF.ext hE2); (try replace hM := hM.ext hE2); (try replace hK := hK.ext hE2); (try replace hB2 := hB2.ext hE2); (try replace hB3 := hB3.ext hE2); (try replace hb2_0 := Ext.cell_some hE2 hb2_0); (try replace hb2_1 := Ext.cell_some hE2 hb2_1); (try replace hb2_2 := Ext.cell_some hE2 hb2_2); (try replace hb3_0 := Ext.cell_some hE2 hb3_0); (try replace hb3_1 := Ext.cell_some hE2 hb3_1); have hb2_0 := hB2.cell 0; have hb2_1 := hB2.cell 1; have hb2_2 := hB2.cell 2; simp at hb2_0 hb2_1 hb2_2; clear hE2) | ((with_reducible refine q_box (d := some 3) ?_); intro W3 g3 hE3 hB3 hg3; simp [Act.eval, Act.put, Value.cells] at hB3; (try replace hE := hE.trans hE3); (try replace hF := hF.ext hE3); (try replace hM := hM.ext hE3); (try replace hK := hK.ext hE3); (try replace hB2 := hB2.ext hE3); (try replace hB3 := hB3.ext hE3); (try replace hb2_0 := Ext.cell_some hE3 hb2_0); (try replace hb2_1 := Ext.cell_some hE3 hb2_1); (try replace hb2_2 := Ext.cell_some hE3 hb2_2); (try replace hb3_0 := Ext.cell_some hE3 hb3_0); (try replace hb3_1 := Ext.cell_some hE3 hb3_1); have hb3_0 := hB3.cell 0; have hb3_1 := hB3.cell 1; simp at hb3_0 hb3_1; clear hE3))
    obtain ⟨ts, hts⟩ : ∃ ts, tests c s = ts := ⟨_, rfl⟩
    have Hts := Lib.hid hts
    rw [hts] at hO75 qa ⊢
    unfold maxLen at qb
    clear hts
    obtain ⟨Wl, hWl⟩ : ∃ W, W = Wc2 := ⟨_, rfl⟩
    subst hWl
    go_loopw [7, 8, 10] (fun u v i wr => Ext Wl wr ∧ ∃ k : Nat, k ≤ ts.length ∧ i = .int .i64 k ∧ u = .bool (someTo c ts k) ∧ v = .bool (everyTo c ts k)) (fun _ _ i _ => ts.length - (intOf i).toNat)
    case atStart => exact ⟨Ext.refl _, 0, by omega, rfl, rfl, rfl⟩
    case round =>
      obtain ⟨hEr, k, hk, rfl, rfl, rfl⟩ := hrel
      (try replace hE := hE.trans hEr); (try replace hF := hF.ext hEr); (try replace hM := hM.ext hEr); (try replace hK := hK.ext hEr); (try replace hB2 := hB2.ext hEr); (try replace hB3 := hB3.ext hEr); (try replace hb2_0 := Ext.cell_some hEr hb2_0); (try replace hb2_1 := Ext.cell_some hEr hb2_1); (try replace hb2_2 := Ext.cell_some hEr hb2_2); (try replace hb3_0 := Ext.cell_some hEr hb3_0); (try replace hb3_1 := Ext.cell_some hEr hb3_1)
      by_cases hlt : k < ts.length
      · obtain ⟨ad, u, rfl, e10, hu0⟩ := hO75.ss.at_ hlt
        have e1 := Ext.cell_some hEr e10
        have hu := hu0.ext hEr
        obtain ⟨Au, cu, rfl, hu1, hu2, _⟩ := hu.ints
        have Htk := Lib.hid (tests_mem Hs.out (by rw [Hts.out]; exact List.getElem_mem hlt)).1
        have Hss := Lib.hid (someTo_succ c ts hlt)
        have Hes := Lib.hid (everyTo_succ c ts hlt)
        clear hO75 e10 hu0
        cases hp : c.passed ts[k] <;> cases hsk : someTo c ts k <;> cases hek : everyTo c ts k
        all_goals
          have Hp := Lib.hid hp; have Hsk := Lib.hid hsk; have Hek := Lib.hid hek
          clear hsk hek
          go_wp2_with fail
          go_region_held3 (fun w' => w'.cell? ⟨g2, 0, none⟩ = some (fv) ∧ w'.cell? ⟨g2, 1, none⟩ = some (mv) ∧ w'.cell? ⟨g2, 2, none⟩ = some (.int .i64 c.all) ∧ w'.cell? (ad.add k) = some (.slice Au ts[k].length cu)) (simp [*]) ((first | (go_at_call 51; ((with_reducible refine (RPassed_any _ _ c ts[k] _ (by first | exact CodeV.of hF hM HW.out | exact (CodeV.of hF hM HW.out).d) (by first | exact hu.ints | exact (hu.ints).d) Ho.out Htk.out).mono ?_); rintro e Wc3 ⟨rfl, hEc3⟩; (try replace hEc3 := Ext.undrew hEc3); (try replace hE := hE.trans hEc3); (try replace hEr := hEr.trans hEc3); (try replace hEr := hEr.trans hEc3); (try replace hF := hF.ext hEc3); (try replace hM := hM.ext hEc3); (try replace hK := hK.ext hEc3); (try replace hB2 := hB2.ext hEc3); (try replace hB3 := hB3.ext hEc3); (try replace hu := hu.ext hEc3); (try replace hb2_0 := Ext.cell_some hEc3 hb2_0); (try replace hb2_1 := Ext.cell_some hEc3 hb2_1); (try replace hb2_2 := Ext.cell_some hEc3 hb2_2); (try replace hb3_0 := Ext.cell_some hEc3 hb3_0); (try replace hb3_1 := Ext.cell_some hEc3 hb3_1); (try replace e1 := Ext.cell_some hEc3 e1)))))
          go_wp2
          go_roundw
          case rel => exact ⟨hEr, k + 1, by omega, by go_num, by rw [Hss.out, Hp.out, Hsk.out]; rfl, by rw [Hes.out, Hp.out, Hek.out]; rfl⟩
          case measure => simp [intOf]; omega
      · obtain rfl : k = ts.length := by omega
        cases hek : everyTo c ts ts.length
        · cases hsk : someTo c ts ts.length
          · have Ho2 := Lib.hid (outcome_0 (c := c) (s := s) (by rw [Hts.out]; exact hek) (by rw [Hts.out]; exact hsk))
            go_wp2
            go_ret2
            exact ⟨by rw [Ho2.out]; rfl, hE⟩
          · have Ho2 := Lib.hid (outcome_2 (c := c) (s := s) (by rw [Hts.out]; exact hek) (by rw [Hts.out]; exact hsk))
            go_wp2
            go_ret2
            exact ⟨by rw [Ho2.out]; rfl, hE⟩
        · have Ho2 := Lib.hid (outcome_1 (c := c) (s := s) (by rw [Hts.out]; exact hek))
          go_wp2
          go_ret2
          exact ⟨by rw [Ho2.out]; rfl, hE⟩
  · have q1 : (fittingErr c s != 0) = true := by simp [ha]
    have Hr := Lib.hid (show outcomeAns c s = (0, fittingErr c s) by unfold outcomeAns; rw [if_pos ha])
    clear ha
    rw [Hr.out]
    go_enter Tryz.func31, Tryz.ntmps31
    go_wp2_with (first | (go_at_call 78; ((with_reducible refine (Rfitting_any _ _ c s _ (by exact CodeV.of hF hM HW.out) (by exact SheetV.of hK)).mono ?_); rintro e Wc4 ⟨rfl, hEc4⟩; (try replace hEc4 := Ext.undrew hEc4); (try replace hE := hE.trans hEc4); (try replace hEr := hEr.trans hEc4); (try replace hEr := hEr.trans hEc4); (try replace hF := hF.ext hEc4); (try replace hM := hM.ext hEc4); (try replace hK := hK.ext hEc4); (try replace hB2 := hB2.ext hEc4); (try replace hB3 := hB3.ext hEc4); (try replace hu := hu.ext hEc4); (try replace hb2_0 := Ext.cell_some hEc4 hb2_0); (try replace hb2_1 := Ext.cell_some hEc4 hb2_1); (try replace hb2_2 := Ext.cell_some hEc4 hb2_2); (try replace hb3_0 := Ext.cell_some hEc4 hb3_0); (try replace hb3_1 := Ext.cell_some hEc4 hb3_1); (try replace e1 := Ext.cell_some hEc4 e1))) | ((with_reducible refine q_box (d := some 2) ?_); intro W2 g2 hE2 hB2 hg2; simp [Act.eval, Act.put, Value.cells] at hB2; (try replace hE := hE.trans hE2); (try replace hEr := hEr.trans hE2); (try replace hEr := hEr.trans hE2); (try replace hF := hF.ext hE2); (try replace hM := hM.ext hE2); (try replace hK := hK.ext hE2); (try replace hB2 := hB2.ext hE2); (try replace hB3 := hB3.ext hE2); (try replace hu := hu.ext hE2); (try replace hb2_0 := Ext.cell_some hE2 hb2_0); (try replace hb2_1 := Ext.cell_some hE2 hb2_1); (try replace hb2_2 := Ext.cell_some hE2 hb2_2); (try replace hb3_0 := Ext.cell_some hE2 hb3_0); (try replace hb3_1 := Ext.cell_some hE2 hb3_1); (try replace e1 := Ext.cell_some hE2 e1); have hb2_0 := hB2.cell 0; have hb2_1 := hB2.cell 1; have hb2_2 := hB2.cell 2; simp at hb2_0 hb2_1 hb2_2; clear hE2) | ((with_reducible refine q_box (d := some 3) ?_); intro W3 g3 hE3 hB3 hg3; simp [Act.eval, Act.put, Value.cells] at hB3; (try replace hE := hE.trans hE3); (try replace hEr := hEr.trans hE3); (try replace hEr := hEr.trans hE3); (try replace hF := hF.ext hE3); (try replace hM := hM.ext hE3); (try replace hK := hK.ext hE3); (try replace hB2 := hB2.ext hE3); (try replace hB3 := hB3.ext hE3); (try replace hu := hu.ext hE3); (try replace hb2_0 := Ext.cell_some hE3 hb2_0); (try replace hb2_1 := Ext.cell_some hE3 hb2_1); (try replace hb2_2 := Ext.cell_some hE3 hb2_2); (try replace hb3_0 := Ext.cell_some hE3 hb3_0); (try replace hb3_1 := Ext.cell_some hE3 hb3_1); (try replace e1 := Ext.cell_some hE3 e1); have hb3_0 := hB3.cell 0; have hb3_1 := hB3.cell 1; simp at hb3_0 hb3_1; clear hE3))
    go_ret2
    exact ⟨rfl, hE⟩
end Go.Bp
end
