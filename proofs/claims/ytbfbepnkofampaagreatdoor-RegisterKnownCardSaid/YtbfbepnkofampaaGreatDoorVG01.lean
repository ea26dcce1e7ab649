/- Chapter 11: contracts of functions of the program and of the reference, and plain laws (out of Held3 NHo). No condition of its own. -/
import Derived.Test.YtbfbepnkofampaaGreatDoorP17
set_option maxRecDepth 100000
set_option linter.all false
section
namespace Go.Bp
open Go.RowKit
section
variable {P : Program} {ops : Array Oper} {Q : Exit → Act → World → Prop} {S : World → Prop} {a : Act} {w : World} {rest : List Oper} {o : Oper}
theorem wpList_wanted (hw : Region.wanted o (yielded ops a.tmps) = true)
    (h : ∀ K : Act → World → Prop, (∀ a w, wpList P ops Q rest a w → K a w) → o.wp P a w K Q) : wpList P ops Q (o :: rest) a w :=
  wpList_step fun K hK => by rw [if_pos hw]; exact h K hK
theorem q_skipG (hw : Region.wanted o (yielded ops a.tmps) = false) (k : wpList P ops Q rest (a.put o.dst undef) w) : wpList P ops Q (o :: rest) a w :=
  wpList_step fun K hK => by rw [if_neg (by simp [hw])]; exact hK _ _ k
end
section
variable {P : Program} {ops : Array Oper} {Q : Exit → Act → World → Prop} {S : World → Prop} {a : Act} {w : World} {rest l : List Oper} {r : OTree}
end
end Go.Bp
end
section
namespace Go.Bp
open Go Go.RowKit Go.Walk
section
variable {P : Program} {ops : Array Oper} {Q : Exit → Act → World → Prop} {S : World → Prop} {a : Act} {w : World} {r : OTree} {i j : Nat} {rest : List Oper}
variable {l : List Value} {df : List Deferred} {d : Tmp} {op : Op} {t ty : TypeId} {pos : String} {after : Array Edge} {x y z : Operand} {v u : Value} {b b1 b2 c wq : Bool} {p : Addr}
def RdO (S : World → Prop) (P : Program) (ops : Array Oper) (o : Oper) (a : Act) (K : Act → Prop) : Prop :=
  ∃ v, (Region.wanted o (yielded ops a.tmps) = true ∧ (∀ w, S w → (execOp a.eval o).run P w = .ok (.value v) w) ∨ Region.wanted o (yielded ops a.tmps) = false ∧ v = undef) ∧ K (a.put o.dst v)
theorem t_rd {o : Oper} (hS : S w) (h : RdO S P ops o a (fun a' => wpTree P ops Q S r a' w)) (ho : ops[i]? = some o := by simp only [gS]; rfl) : wpTree P ops Q S (.take i r) a w := by
  obtain ⟨v, h1 | h1, k⟩ := h
  · exact ⟨o, v, ho, .inl h1, hS, k⟩
  · exact ⟨o, v, ho, .inr h1, hS, k⟩
theorem l_rd {o : Oper} (h : RdO (fun w' => w' = w) P ops o a (fun a' => wpList P ops Q rest a' w)) : wpList P ops Q (o :: rest) a w := by
  obtain ⟨v, ⟨h1, h2⟩ | ⟨h1, rfl⟩, k⟩ := h
  · exact wpList_wanted h1 fun K hK => by
      unfold Oper.wp
      rw [h2 w rfl]
      exact hK _ _ k
  · exact q_skipG h1 k
theorem l_fn {f : Operand} {ar : Array Operand} {ats : Array TypeId} {d' : Option Tmp} {gd : Option (Tmp × Bool)} (h : wpList P ops Q (⟨d', .call { callee := .value f, args := ar, argTypes := ats }, ty, pos, after, gd⟩ :: rest) a w) : wpList P ops Q (⟨d', .call { callee := .value f, args := ar, argTypes := ats }, ty, pos, after, gd⟩ :: rest) a w := h
theorem l_done (h : Q .normal a w) : wpList P ops Q [] a w := h
theorem eS : (∀ (l : List Value) (df : List Deferred) (n : Nat), (⟨l.toArray, df⟩ : Act).eval (.tmp n) = l.getD n undef) ∧ (∀ (a : Act) (v : Value), a.eval (.const v) = v) ∧ (∀ (x y : Value) (l : List Value), (x :: l).getD 0 y = x) ∧ (∀ (x y : Value) (l : List Value) (n : Nat), (x :: l).getD (n + 1) y = l.getD n y) :=
  ⟨fun l df n => by simp [Act.eval], fun _ _ => rfl, fun _ _ _ => rfl, fun _ _ _ _ => by simp⟩
theorem gV : (∀ (l : List Value) (i : Nat), l.toArray[i]? = l[i]?) ∧ (∀ (x : Value) (l : List Value) (i : Nat), (x :: l)[i + 1]? = l[i]?) ∧ (∀ (x : Value) (l : List Value), (x :: l)[0]? = some x) :=
  ⟨fun _ _ => List.getElem?_toArray .., fun _ _ _ => List.getElem?_cons_succ .., fun _ _ => List.getElem?_cons_zero ..⟩
theorem sS0 (x : Value) (l : List Value) (y : Value) : (x :: l).set 0 y = y :: l := rfl
theorem sS1 (x : Value) (l : List Value) (y : Value) (i : Nat) : (x :: l).set (i + 1) y = x :: l.set i y := rfl
theorem put_l : (⟨l.toArray, df⟩ : Act).put (some d) v = ⟨(l.set d v).toArray, df⟩ := by simp [Act.put]
variable {K : Act → Prop}
theorem r_un (hy : ∀ w, S w → (execOp (⟨l.toArray, df⟩ : Act).eval ⟨some d, op, ty, pos, after, none⟩).run P w = .ok (.value v) w) (k : K ⟨(l.set d v).toArray, df⟩) : RdO S P ops ⟨some d, op, ty, pos, after, none⟩ ⟨l.toArray, df⟩ K :=
  ⟨v, .inl ⟨rfl, hy⟩, by rw [put_l]; exact k⟩
theorem r_mv (k : K ⟨(l.set d v).toArray, df⟩) (hv : (⟨l.toArray, df⟩ : Act).eval x = v := by (simp only [eS]; rfl)) : RdO S P ops ⟨some d, .move x, ty, pos, after, none⟩ ⟨l.toArray, df⟩ K := r_un (fun w _ => by subst hv; rfl) k
theorem r_as (k : K ⟨(l.set d v).toArray, df⟩) (hv : (⟨l.toArray, df⟩ : Act).eval x = v := by (simp only [eS]; rfl)) : RdO S P ops ⟨some d, .assign x, ty, pos, after, none⟩ ⟨l.toArray, df⟩ K := r_un (fun w _ => by subst hv; rfl) k
theorem r_ld (hl : ∀ w, S w → LoadC P w t p v) (k : K ⟨(l.set d v).toArray, df⟩) (hx : (⟨l.toArray, df⟩ : Act).eval x = .pointer (some p) := by (simp only [eS]; rfl)) : RdO S P ops ⟨some d, .load t x, ty, pos, after, none⟩ ⟨l.toArray, df⟩ K :=
  r_un (fun w hw => by have := hl w hw; exact run_lc hx) k
def GdO (S : World → Prop) (P : Program) (ops : Array Oper) (o : Oper) (a : Act) (wq : Bool) (K : Act → Prop) : Prop := Region.wanted o (yielded ops a.tmps) = wq → RdO S P ops o a K
def isB (v : Value) (c : Bool) : Bool := match v with | .bool b => b == c | _ => false
theorem want_at {o : Oper} (hg : o.guard = some (j, c)) (hs : ((ops[j]?).bind (·.dst)).bind (l.toArray[·]?) = some v) : Region.wanted o (yielded ops l.toArray) = isB v c := by
  unfold Region.wanted yielded isB
  rw [hg]
  simp only [hs]
  cases v <;> first | rfl | (rename_i b; cases b <;> cases c <;> rfl)
theorem r_g2 (h : GdO S P ops ⟨some d, op, ty, pos, after, some (j, false)⟩ ⟨l.toArray, df⟩ (!b) K) (hs : ((ops[j]?).bind (·.dst)).bind (l.toArray[·]?) = some (.bool b) := by (simp only [gS, Option.bind_some, gV]; rfl)) : RdO S P ops ⟨some d, op, ty, pos, after, some (j, false)⟩ ⟨l.toArray, df⟩ K :=
  h (by rw [want_at rfl hs]; cases b <;> rfl)
variable {g : Tmp × Bool}
theorem g_ye (h : RdO S P ops ⟨some d, op, ty, pos, after, none⟩ ⟨l.toArray, df⟩ K) : GdO S P ops ⟨some d, op, ty, pos, after, some g⟩ ⟨l.toArray, df⟩ true K := fun hw => by
  obtain ⟨v, ⟨h1, h2⟩ | ⟨h1, _⟩, k⟩ := h
  · exact ⟨v, .inl ⟨hw, h2⟩, k⟩
  · cases h1
end
end Go.Bp
end
