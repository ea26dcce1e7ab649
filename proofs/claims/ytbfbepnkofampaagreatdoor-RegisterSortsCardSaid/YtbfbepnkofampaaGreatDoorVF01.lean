/- Chapter 11: contracts of functions of the program and of the reference, and plain laws (out of NC RSa RSf RzF RSb RSi RSi2). No condition of its own. -/
import Derived.Test.YtbfbepnkofampaaGreatDoorP23
import Derived.Test.YtbfbepnkofampaaGreatDoorP24
set_option maxRecDepth 100000
set_option linter.all false
section
namespace Go.Walk
open Go Go.Bp Go.RowKit
section
variable {α : Type} [Enc α] {l m : List α} {x : α} {W a b B : World} {v : Value} {n c k s : Nat} {A0 : Option Addr} {e : TypeId}
end
section
variable {a W B : World} {g n m c0 c1 size k c : Nat} {t e : TypeId} {l cs : List Value} {v : Value} {P : Program}
variable {ops : Array Oper} {Q : Exit → Act → World → Prop} {A : Act} {rest : List Oper}
variable {d : Option Tmp} {ty : TypeId} {pos : String} {after : Array Edge} {x y : Operand} {z : List Value} {A0 A1 : Option Addr}
theorem run_from {gd : Option (Tmp × Bool)} {sz : Nat} [st : SlT P t e] [q : ZeroT P e z] (h : A.eval x = .slice A0 n c ∧ A.eval y = .int .i64 (k : Int) ∧ k ≤ n ∧ n ≤ c ∧ z.length = sz ∧ v = .slice (partAt A0 c k sz) (n - k) (c - k) := by refine ⟨by with_unfolding_all rfl, by with_unfolding_all rfl, by omega, by omega, by (simp; with_unfolding_all rfl), by with_unfolding_all rfl⟩) :
    (execOp A.eval (⟨d, .slice t x (some y) none none, ty, pos, after, gd⟩ : Oper)).run P W = .ok (.value v) W := by
  obtain ⟨h1, h2, h3, h4, rfl, rfl⟩ := h
  obtain ⟨i, hi, hs⟩ := size_t q
  have hb : (Instr.sliceBound (.int .i64 (k : Int)) n .sliceB).run P W = .ok k W := by rw [run_sliceBound _ _ _ _ _ (by omega) (by omega)]; simp
  simp [execOp, h1, h2, Instr.sliceAt, run_underlying st.h, Instr.slice, Instr.sliceBounds, hb, sizeOf, typeInfo, hi, hs, Result.andThen, partAt]
abbrev RL {α : Type} [Enc α] (W : World) (l : List α) (e : Ending) (W' : World) : Prop := ∃ A c, e = .returned (.slice A l.length c) ∧ ListB α W' (.slice A l.length c) l ∧ StepC W W'
end
end Go.Walk
end
section
namespace Go.Rg
open Go Go.Bp Go.RowKit Go.Walk Go.Proofs
set_option synthInstance.maxSize 2000
set_option synthInstance.maxHeartbeats 400000
set_option maxHeartbeats 4000000
class LenC2 {α : Type} (l : List α) : Prop where h : l.length ≤ 1000
theorem fields_any (x : Event) (w : World) : Calls Tryz.prog 183 #[Enc.val x] w (RL w (fields x)) := by
 obtain ⟨ek, ed, ⟨ec, eo⟩, et, eq, ep, eu, em⟩ := x
 go_enter Tryz.func183, Tryz.ntmps183
 go_wp2_with (first | (with_reducible refine load_c ?_) | (with_reducible refine box_c ?_; intro V g _ _ _) | (with_reducible refine bslice_c ?_; intro V g _ _ _))
 go_ret
 exact ⟨_, _, rfl, ⟨ListV.blk (inferInstance : BlkC V g 3 _).h rfl rfl (by show 9 ≤ maxLen; decide)⟩, ⟨ExtC.h⟩⟩
class FldE (x : Event) (X : outParam (List Int)) : Prop where h : fields x = X
instance qRSa22 {W : World} {k d c o t q p u m : Int} {X : List Int} [h : FldE ⟨k, d, ⟨c, o⟩, t, q, p, u, m⟩ X] : FunC Tryz.prog 183 #[.agg #[.int .i64 k, .int .i64 d, .int .i64 c, .int .i64 o, .int .i64 t, .int .i64 q, .int .i64 p, .int .i64 u, .int .i64 m]] W (RL W X) := ⟨by rw [← h.h]; exact fields_any ⟨k, d, ⟨c, o⟩, t, q, p, u, m⟩ W⟩
theorem cmpL_lt : ∀ {x y : List Int}, x.length = y.length → ∀ k (hk : k < x.length) (hk2 : k < y.length), (∀ j (h1 : j < k), x[j]'(by omega) = y[j]'(by omega)) → x[k] ≠ y[k] → decide (cmpL x y < 0) = decide (x[k] < y[k])
 | [], _, _, k, hk, _, _, _ => by simp at hk
 | _ :: _, [], h, _, _, _, _, _ => by simp at h
 | a :: x, b :: y, h, 0, hk, hk2, hj, hne => by
  simp only [List.getElem_cons_zero] at hne ⊢
  unfold cmpL
  by_cases h1 : a < b
  ·rw [if_pos h1]; simp [h1]
  ·rw [if_neg h1, if_pos (by omega)]; simp [h1]
 | a :: x, b :: y, h, k + 1, hk, hk2, hj, hne => by
  simp only [List.getElem_cons_succ] at hne ⊢
  have h0 := hj 0 (by omega)
  simp only [List.getElem_cons_zero] at h0
  unfold cmpL
  rw [if_neg (by omega), if_neg (by omega)]
  exact cmpL_lt (by simpa using h) k (by simpa using hk) (by simpa using hk2) (fun j hj1 => by have := hj (j + 1) (by omega); simpa using this) hne
theorem cmpL_same : ∀ {x y : List Int}, x = y → decide (cmpL x y < 0) = false := by
 intro x y h; subst h; rw [cmpL_refl]; rfl
end Go.Rg
end
section
namespace Go.Rg
open Go Go.Bp Go.RowKit Go.Walk Go.Proofs
set_option synthInstance.maxSize 2000
set_option synthInstance.maxHeartbeats 400000
set_option maxHeartbeats 4000000
set_option maxHeartbeats 8000000 in
theorem Persons_any (u v : Value) (p q : Person) (w : World) (hu : PersonV w u p) (hv : PersonV w v q) : Calls Tryz.prog 20 #[u, v] w (RB w (decide (p.born = q.born ∧ p.events = q.events))) := by
 obtain ⟨A, c, rfl, hl⟩ := hu.h
 obtain ⟨B, d, rfl, hm⟩ := hv.h
 have hc := hl.caps
 have hd := hm.caps
 obtain ⟨b1, l⟩ := p
 obtain ⟨b2, m⟩ := q
 simp only at hl hm hc hd ⊢
 have i1 := ListB.mk hl
 have i2 := ListB.mk hm
 by_cases hb : b1 = b2
 case neg =>
  have hR : decide (b1 = b2 ∧ l = m) = false := decide_eq_false fun e => hb e.1
  rw [hR]
  have q1 : (b1 != b2) = true := by simpa using hb
  clear hR hb
  go_enter Tryz.func20, Tryz.ntmps20
  go_wp2_with (first | go_skip | (with_reducible refine load_c ?_) | (with_reducible refine box_c ?_; intro V g _ _ _))
  all_goals (try (go_ret; refine ⟨?_, ⟨ExtC.h⟩⟩; first | rfl))
 subst hb
 have q1 : (b1 != b1) = false := by simp
 by_cases hlm : l.length = m.length
 ·have q : ((l.length : Int) != (m.length : Int)) = false := by simp [hlm]
  obtain ⟨R, hR⟩ : ∃ R, decide (b1 = b1 ∧ l = m) = R := ⟨_, rfl⟩
  rw [hR]
  have HT := Lib.hid (show (∀ j (h1 : j < l.length) (h2 : j < m.length), l[j] = m[j]) → R = true from fun h => by
   rw [← hR]; exact decide_eq_true ⟨rfl, List.ext_getElem hlm fun j h1 h2 => h j h1 h2⟩)
  have HF := Lib.hid (show ∀ j (h1 : j < l.length) (h2 : j < m.length), l[j] ≠ m[j] → R = false from fun j h1 h2 h => by
   rw [← hR]; exact decide_eq_false fun e => h (by have e := e.2; subst e; rfl))
  have Hl := Lib.hid hlm
  clear hR hlm
  go_enter Tryz.func20, Tryz.ntmps20
  go_wp2_with (first | (with_reducible refine load_c ?_) | (with_reducible refine load_g ?_) | (with_reducible refine box_c ?_; intro V g _ _ _))
  go_loopw [5] (fun iv wr => StepC V wr ∧ ∃ k : Nat, k ≤ l.length ∧ iv = .int .i64 k ∧ ∀ j (hj : j < k) (h1 : j < l.length) (h2 : j < m.length), l[j] = m[j]) (fun iv _ => l.length - (RowKit.intOf iv).toNat)
  case atStart => exact ⟨⟨ExtC.h⟩, 0, by omega, rfl, fun j hj => by omega⟩
  case round =>
   obtain ⟨_, k, hk, rfl, hz⟩ := hrel
   have Hz := Lib.hid hz
   clear hz
   by_cases lk : k < l.length
   ·have lm : k < m.length := by have := Hl.out; omega
    obtain ⟨ad, rfl, ha⟩ := hl.elem lk
    obtain ⟨bd, rfl, hb⟩ := hm.elem lm
    have Hn := Lib.hid (show l[k] = m[k] → ∀ j (hj : j < k + 1) (h1 : j < l.length) (h2 : j < m.length), l[j] = m[j] from fun h j hj h1 h2 => by
     by_cases hjk : j = k
     ·subst hjk; exact h
     ·exact Hz.out j (by omega) h1 h2)
    have Hs := Lib.hid (show l[k] ≠ m[k] → R = false from fun h => HF.out k lk lm h)
    obtain ⟨x, hx⟩ : ∃ x, l[k] = x := ⟨_, rfl⟩
    obtain ⟨y, hy⟩ : ∃ y, m[k] = y := ⟨_, rfl⟩
    rw [hx, hy] at Hn Hs
    rw [hx] at ha
    rw [hy] at hb
    obtain ⟨xk, xd, ⟨xc, xo⟩, xt, xq, xp, xu, xm⟩ := x
    obtain ⟨yk, yd, ⟨yc, yo⟩, yt, yq, yp, yu, ym⟩ := y
    have i3 : CellsB w (ad.add (k * 9)) [.int .i64 xk, .int .i64 xd, .int .i64 xc, .int .i64 xo, .int .i64 xt, .int .i64 xq, .int .i64 xp, .int .i64 xu, .int .i64 xm] := ⟨ha⟩
    have i4 : CellsB w (bd.add (k * 9)) [.int .i64 yk, .int .i64 yd, .int .i64 yc, .int .i64 yo, .int .i64 yt, .int .i64 yq, .int .i64 yp, .int .i64 yu, .int .i64 ym] := ⟨hb⟩
    have hE := fun W => neq80 W xk xd xc xo xt xq xp xu xm yk yd yc yo yt yq yp yu ym
    obtain ⟨b, hbb⟩ : ∃ b, decide ((⟨xk, xd, ⟨xc, xo⟩, xt, xq, xp, xu, xm⟩ : Event) = ⟨yk, yd, ⟨yc, yo⟩, yt, yq, yp, yu, ym⟩) = b := ⟨_, rfl⟩
    have Hb := Lib.hid hbb
    simp only [hbb] at hE
    have zk : IntKind.i64.wrap ((k : Int) + 1) = (k : Int) + 1 := IntWalk.i64_in _ (by omega)
    clear ha hb hx hy hbb
    go_wp2_with (first | (with_reducible refine load_c ?_))
    refine wp_rd ((.take 0 (.take 1 (.take 2 (.take 3 (.take 4 (.take 5 (.take 6 (.take 7 (.take 8 (.take 9 (.take 10 .nil)))))))))))) (fun hHeld => ?_) (hQ := by intro _ _ _ _ _ h; exact h)
    repeat' first | ((with_reducible refine t_tk ?_); (first | (refine tk (v := ?_) ?_ hHeld ?_; rotate_left; (· (intro W' h; have := StepC.mk h; first | with_reducible exact run_lc))) | (refine tk (v := ?_) ?_ hHeld ?_; rotate_left; (· (intro wq hSw; go_simp; (try with_reducible rfl))))); (try simp only [pS])) | (with_reducible refine t_done ?_)
    cases b
    ·obtain rfl := Hs.out (of_decide_eq_false Hb.out)
     clear Hn Hs
     simp only [Bool.not_false]
     go_wp2
     go_ret
     exact ⟨rfl, ⟨ExtC.h⟩⟩
    ·have Hn2 := Lib.hid (Hn.out (of_decide_eq_true Hb.out))
     clear Hn Hs
     simp only [Bool.not_true]
     go_wp2
     go_roundw
     case rel => exact ⟨⟨ExtC.h⟩, k + 1, lk, rfl, Hn2.out⟩
     case measure => simp [RowKit.intOf]; omega
   ·obtain rfl : k = l.length := by omega
    obtain rfl := HT.out fun j h1 h2 => Hz.out j h1 h1 h2
    go_wp2_with (first | (with_reducible refine load_c ?_))
    go_ret
    exact ⟨rfl, ⟨ExtC.h⟩⟩
 ·have hR : decide (b1 = b1 ∧ l = m) = false := decide_eq_false fun e => hlm (by rw [e.2])
  rw [hR]
  have q : ((l.length : Int) != (m.length : Int)) = true := by simp; omega
  clear hR hlm
  go_enter Tryz.func20, Tryz.ntmps20
  go_wp2_with (first | (with_reducible refine load_c ?_) | (with_reducible refine load_g ?_) | (with_reducible refine box_c ?_; intro V g _ _ _))
  all_goals (try (go_ret; refine ⟨?_, ⟨ExtC.h⟩⟩; first | rfl))
instance qRSf19 {W : World} {u v : Value} {p q : Person} [h1 : PersonC W u p] [h2 : PersonC W v q] : FunC Tryz.prog 20 #[u, v] W (RB W (decide (p.born = q.born ∧ p.events = q.events))) := ⟨Persons_any u v p q W h1.h h2.h⟩
end Go.Rg
end
section
namespace Go.Rg
open Go.Bp
theorem putE_at : ∀ {o : List Event} {x : Event} {p : Nat}, p ≤ o.length → (∀ j (hj : j < o.length), j < p → ltE o[j] x) → (∀ h : p < o.length, ¬ ltE o[p] x) →
    ((∃ h : p < o.length, o[p] = x) → putE x o = o) ∧ ((∀ h : p < o.length, o[p] ≠ x) → putE x o = o.take p ++ x :: o.drop p)
  | [], x, p, hp, _, _ => by
    have : p = 0 := by simpa using hp
    subst this
    exact ⟨fun ⟨h, _⟩ => by simp at h, fun _ => by simp [putE]⟩
  | a :: o, x, 0, hp, h1, h2 => by
    have n := h2 (by simp)
    simp only [List.getElem_cons_zero] at n
    unfold putE
    rw [if_neg n]
    refine ⟨fun ⟨_, e⟩ => ?_, fun e => ?_⟩
    · rw [if_pos (by simpa using e)]
    · have e := e (by simp)
      rw [if_neg (by simpa using e)]; simp
  | a :: o, x, p + 1, hp, h1, h2 => by
    have n := h1 0 (by simp) (by omega)
    simp only [List.getElem_cons_zero] at n
    have ih := putE_at (o := o) (x := x) (p := p) (by simpa using hp) (fun j hj hjp => by have := h1 (j + 1) (by simpa using hj) (by omega); simpa using this) (fun h => by have := h2 (by simpa using h); simpa using this)
    unfold putE
    rw [if_pos n]
    refine ⟨fun ⟨h, e⟩ => ?_, fun e => ?_⟩
    · rw [ih.1 ⟨by simpa using h, by simpa using e⟩]
    · rw [ih.2 fun h => by have := e (by simpa using h); simpa using this]; simp
namespace Rules
variable (r : Rules)
variable {r}
end Rules
end Go.Rg
end
section
namespace Go.Rg
open Go Go.Bp Go.RowKit Go.Walk Go.Proofs
set_option synthInstance.maxSize 2000
set_option synthInstance.maxHeartbeats 400000
set_option maxHeartbeats 4000000
set_option maxHeartbeats 8000000 in
theorem before_any' (a b : Event) (R : Bool) (w : World) (hR : decide (ltE a b) = R) : Calls Tryz.prog 124 #[Enc.val a, Enc.val b] w (RB w R) := by
 obtain ⟨X, hX⟩ : ∃ X, fields a = X := ⟨_, rfl⟩
 obtain ⟨Y, hY⟩ : ∃ Y, fields b = Y := ⟨_, rfl⟩
 have hXl : X.length = 9 := by rw [← hX]; rfl
 have hYl : Y.length = 9 := by rw [← hY]; rfl
 have hXY : decide (cmpL X Y < 0) = R := by rw [← hR]; show _ = decide (cmpL (fields a) (fields b) < 0); rw [hX, hY]
 have i1 := FldE.mk hX
 have i2 := FldE.mk hY
 have HD := Lib.hid (show ∀ k (hk : k < X.length) (hk2 : k < Y.length), (∀ j (_ : j < k) (ha : j < X.length) (hb : j < Y.length), X[j] = Y[j]) → X[k] ≠ Y[k] → decide (X[k] < Y[k]) = R from fun k hk hk2 h1 h2 => by rw [← hXY, cmpL_lt (by omega) k hk hk2 (fun j hj => h1 j hj _ _) h2])
 have HS := Lib.hid (show X = Y → R = false from fun h => by rw [← hXY, cmpL_same h])
 clear hX hY hXY hR
 obtain ⟨k1, d1, ⟨c1, o1⟩, t1, q1, p1, u1, m1⟩ := a
 obtain ⟨k2, d2, ⟨c2, o2⟩, t2, q2, p2, u2, m2⟩ := b
 have HXl := Lib.hid hXl
 have HYl := Lib.hid hYl
 have l0 : 0 < X.length := by omega
 have l1 : 0 < Y.length := by omega
 clear hXl hYl
 go_enter Tryz.func124, Tryz.ntmps124
 go_wp2_with (first | (with_reducible refine box_c ?_; intro V g _ _ _))
 refine wp_rd ((.take 0 (.take 2 (.one 1 (.one 3 (.take 4 (.take 5 .nil))))))) (fun hHeld => ?_) (hQ := by intro _ _ _ _ _ h; exact h)
 repeat' first | ((with_reducible refine t_tk ?_); (first | (refine tk (v := ?_) ?_ hHeld ?_; rotate_left; (· (intro W' h; have := StepC.mk h; first | with_reducible exact run_lc))) | (refine tk (v := ?_) ?_ hHeld ?_; rotate_left; (· (intro wq hSw; go_simp; (try with_reducible rfl))))); (try simp only [pS])) | ((with_reducible refine t_on ?_); refine t_one (by simp only [gS]; rfl) ?_) | ((with_reducible refine callop_c (d := some 9) ?_); rintro _ Va ⟨Aa, ka, rfl, hLa, (_ : StepC _ _)⟩; refine ⟨_, rfl, ?_⟩) | ((with_reducible refine callop_c (d := some 11) ?_); rintro _ Vb ⟨Ab, kb, rfl, hLb, (_ : StepC _ _)⟩; refine ⟨_, rfl, ?_⟩) | ((with_reducible refine q_nl ?_); clear hHeld; refine t_next ExtC.h (fun hHeld => ?_); (try simp only [pS])) | (with_reducible refine t_done ?_)
 all_goals
  obtain ⟨ad1, rfl, -⟩ := hLa.h.elem l0
  obtain ⟨ad2, rfl, -⟩ := hLb.h.elem l1
  have hca := hLa.h.caps
  have hcb := hLb.h.caps
  go_wp2
  go_loopw [7] (fun iv wr => StepC w wr ∧ ListV wr (.slice (some ad1) X.length ka) X ∧ ListV wr (.slice (some ad2) Y.length kb) Y ∧ ∃ k : Nat, k ≤ X.length ∧ iv = .int .i64 k ∧ ∀ j (_ : j < k) (ha : j < X.length) (hb : j < Y.length), X[j] = Y[j]) (fun iv _ => X.length - (RowKit.intOf iv).toNat)
  case atStart => exact ⟨⟨ExtC.h⟩, hLa.h.ext ExtC.h, hLb.h.ext ExtC.h, 0, by omega, rfl, fun j hj => by omega⟩
  case round =>
   obtain ⟨_, hA, hB, k, hk, rfl, hz⟩ := hrel
   have Hz := Lib.hid hz
   clear hz
   by_cases lk : k < X.length
   ·have lk2 : k < Y.length := by have := HXl.out; have := HYl.out; omega
    obtain ⟨_, e1, ha⟩ := hA.elem lk
    obtain ⟨_, e2, hb⟩ := hB.elem lk2
    injection e1 with e1
    subst e1
    injection e2 with e2
    subst e2
    have hD := HD.out k lk lk2 (fun j hj h1 h2 => Hz.out j hj h1 h2)
    have hN := Lib.hid (show X[k] = Y[k] → ∀ j (_ : j < k + 1) (ha : j < X.length) (hb : j < Y.length), X[j] = Y[j] from fun h j hj h1 h2 => by
     by_cases hjk : j = k
     ·subst hjk; exact h
     ·exact Hz.out j (by omega) h1 h2)
    obtain ⟨x, hx⟩ : ∃ x, X[k] = x := ⟨_, rfl⟩
    obtain ⟨y, hy⟩ : ∃ y, Y[k] = y := ⟨_, rfl⟩
    rw [hx] at ha
    rw [hy] at hb
    rw [hx, hy] at hD hN
    have j1 : CellsB wr (ad1.add k) [.int .i64 x] := ⟨by simpa [Enc.size, Enc.enc] using ha⟩
    have j2 : CellsB wr (ad2.add k) [.int .i64 y] := ⟨by simpa [Enc.size, Enc.enc] using hb⟩
    have zk : IntKind.i64.wrap ((k : Int) + 1) = (k : Int) + 1 := IntWalk.i64_in _ (by have := HXl.out; omega)
    by_cases hxy : x = y
    ·have Hn := Lib.hid (hN.out hxy)
     have q : (x != y) = false := by simpa using hxy
     clear hN hD ha hb hx hy hxy
     go_wp2
     refine wp_rd ((.take 0 (.take 1 (.take 2 (.take 3 (.take 4 (.take 5 (.take 6 (.take 7 (.take 8 .nil)))))))))) (fun hHeld => ?_) (hQ := by intro _ _ _ _ _ h; exact h)
     repeat' first | ((with_reducible refine t_tk ?_); (first | (refine tk (v := ?_) ?_ hHeld ?_; rotate_left; (· (intro W' h; have := StepC.mk h; first | with_reducible exact run_lc))) | (refine tk (v := ?_) ?_ hHeld ?_; rotate_left; (· (intro wq hSw; go_simp; (try with_reducible rfl))))); (try simp only [pS])) | (with_reducible refine t_done ?_)
     all_goals
      (try simp only [q])
      go_wp2
      go_roundw
      case rel => exact ⟨⟨ExtC.h⟩, hA.ext ExtC.h, hB.ext ExtC.h, k + 1, lk, by push_cast; rfl, Hn.out⟩
      case measure => simp [RowKit.intOf]; omega
    ·have HDr := Lib.hid (hD hxy)
     have q : (x != y) = true := by simpa using hxy
     clear hN hD ha hb hx hy hxy
     go_wp2
     refine wp_rd ((.take 0 (.take 1 (.take 2 (.take 3 (.take 4 (.take 5 (.take 6 (.take 7 (.take 8 .nil)))))))))) (fun hHeld => ?_) (hQ := by intro _ _ _ _ _ h; exact h)
     repeat' first | ((with_reducible refine t_tk ?_); (first | (refine tk (v := ?_) ?_ hHeld ?_; rotate_left; (· (intro W' h; have := StepC.mk h; first | with_reducible exact run_lc))) | (refine tk (v := ?_) ?_ hHeld ?_; rotate_left; (· (intro wq hSw; go_simp; (try with_reducible rfl))))); (try simp only [pS])) | (with_reducible refine t_done ?_)
     all_goals
      (try simp only [q])
      go_wp2
      refine wp_rd ((.take 0 (.take 1 (.take 2 (.take 3 (.take 4 (.take 5 (.take 6 (.take 7 (.take 8 (.take 9 .nil))))))))))) (fun hHeld => ?_) (hQ := by intro _ _ _ _ _ h; exact h)
      repeat' first | ((with_reducible refine t_tk ?_); (first | (refine tk (v := ?_) ?_ hHeld ?_; rotate_left; (· (intro W' h; have := StepC.mk h; first | with_reducible exact run_lc))) | (refine tk (v := ?_) ?_ hHeld ?_; rotate_left; (· (intro wq hSw; go_simp; (try with_reducible rfl))))); (try simp only [pS])) | (with_reducible refine t_done ?_)
      all_goals
       go_wp2
       go_ret
       have e := HDr.out
       subst e
       exact ⟨rfl, ⟨ExtC.h⟩⟩
   ·obtain rfl : k = X.length := by omega
    have hE : X = Y := List.ext_getElem (by rw [HXl.out, HYl.out]) fun j h1 h2 => Hz.out j h1 h1 h2
    obtain rfl := HS.out hE
    have q : ¬ ((X.length : Int) < X.length) := by omega
    go_wp2
    go_ret
    exact ⟨rfl, ⟨ExtC.h⟩⟩
class BefE (a b : Event) (R : outParam Bool) : Prop where h : decide (ltE a b) = R
instance qRSb13 {W : World} {k d c o t q p u m k' d' c' o' t' q' p' u' m' : Int} {R : Bool} [h : BefE ⟨k, d, ⟨c, o⟩, t, q, p, u, m⟩ ⟨k', d', ⟨c', o'⟩, t', q', p', u', m'⟩ R] : FunC Tryz.prog 124 #[.agg #[.int .i64 k, .int .i64 d, .int .i64 c, .int .i64 o, .int .i64 t, .int .i64 q, .int .i64 p, .int .i64 u, .int .i64 m], .agg #[.int .i64 k', .int .i64 d', .int .i64 c', .int .i64 o', .int .i64 t', .int .i64 q', .int .i64 p', .int .i64 u', .int .i64 m']] W (RB W R) := ⟨before_any' ⟨k, d, ⟨c, o⟩, t, q, p, u, m⟩ ⟨k', d', ⟨c', o'⟩, t', q', p', u', m'⟩ R W h.h⟩
end Go.Rg
end
section
namespace Go.Rg
open Go Go.Bp Go.RowKit Go.Walk Go.Proofs
set_option synthInstance.maxSize 2000
set_option synthInstance.maxHeartbeats 400000
set_option maxHeartbeats 4000000
class PartB (α : outParam Type) [i : outParam (Enc α)] (w : outParam World) (v : Value) (n : outParam Nat) (l : outParam (List α)) : Prop where h : ListV w v l ∧ n = l.length
instance qRSi16 {α : Type} [i : Enc α] {a W : World} {v : Value} {n : Nat} {l : List α} [p : PartB α a v n l] [q : ExtC a W] : SlC W v (Enc.size α) n (encL l) := ⟨by
 obtain ⟨h, rfl⟩ := p.h
 exact ⟨h.ext q.h, encL_one l⟩⟩
theorem put_rel {W B : World} {A : Option Addr} {c n : Nat} {o' : List Event} {cs : List Value} (hr : RowC W (.slice A n c) B 80 9 n cs) (hc : cs = encL o') (hn : n = o'.length) : ∃ A' c', Value.slice A n c = .slice A' o'.length c' ∧ RowC W (.slice A' o'.length c') B 80 9 o'.length (encL o') := by
 subst hn hc
 exact ⟨A, c, rfl, hr⟩
abbrev RLW {α : Type} [Enc α] (W : World) (t : TypeId) (l : List α) (e : Ending) (W' : World) : Prop := ∃ A c, e = .returned (.slice A l.length c) ∧ RowC W' (.slice A l.length c) W t (Enc.size α) l.length (encL l) ∧ StepC W W'
set_option maxHeartbeats 8000000 in
theorem rsorted_any (v : Value) (l : List Event) (w : World) (h : ListV w v l) (hl : l.length ≤ 1000) : Calls Tryz.prog 62 #[v] w (RLW w 80 (sortE l)) := by
 obtain ⟨A, c, rfl, q1, q2⟩ := h.form
 unfold maxLen at q2
 have i0 := ListB.mk h
 go_enter Tryz.func62, Tryz.ntmps62
 go_wp2
 go_loopw [4, 3] (fun iv ov wr => StepC w wr ∧ ∃ (k : Nat) (o : List Event) (A2 : Option Addr) (c2 : Nat), k ≤ l.length ∧ iv = .int .i64 k ∧ o = sortE (l.take k) ∧ ov = .slice A2 o.length c2 ∧ RowC wr (.slice A2 o.length c2) w 80 9 o.length (encL o) ∧ o.length ≤ k) (fun iv _ _ => l.length - (RowKit.intOf iv).toNat)
 case atStart => exact ⟨⟨Ext.refl _⟩, 0, [], none, 0, by omega, rfl, by simp [sortE], rfl, RowC.nil, by simp⟩
 case round =>
  obtain ⟨_, k, o, A2, c2, hk, rfl, ho, rfl, hO', hol⟩ := hrel
  have hO := hO'.list (l := o) rfl rfl rfl
  by_cases lk : k < l.length
  ·obtain ⟨ad, rfl, ha⟩ := h.elem lk
   have hs := sortE_succ l lk
   rw [← ho] at hs
   obtain ⟨⟨ek, ed, ⟨ec, eo⟩, et, eq, ep, eu, em⟩, hx⟩ : ∃ x, l[k] = x := ⟨_, rfl⟩
   rw [hx] at ha hs
   have i4 : CellsB w (ad.add (k * 9)) [.int .i64 ek, .int .i64 ed, .int .i64 ec, .int .i64 eo, .int .i64 et, .int .i64 eq, .int .i64 ep, .int .i64 eu, .int .i64 em] := ⟨ha⟩
   have zk : IntKind.i64.wrap ((k : Int) + 1) = (k : Int) + 1 := IntWalk.i64_in _ (by omega)
   have Hs := Lib.hid hs
   have hoc := hO.caps.2
   have HO := Lib.hid hO
   clear ha hx ho hs
   go_wp2
   go_loopw [5] (fun pv wr2 => StepC wr wr2 ∧ ∃ p : Nat, p ≤ o.length ∧ pv = .int .i64 p ∧ ∀ j (hj : j < o.length), j < p → ltE o[j] ⟨ek, ed, ⟨ec, eo⟩, et, eq, ep, eu, em⟩) (fun pv _ => o.length - (RowKit.intOf pv).toNat)
   case atStart => exact ⟨⟨ExtC.h⟩, 0, by omega, rfl, fun j _ hj => by omega⟩
   case round =>
    obtain ⟨_, p, hp, rfl, hz⟩ := hrel
    have Hz := Lib.hid hz
    clear hz
    have zp : IntKind.i64.wrap ((p : Int) + 1) = (p : Int) + 1 := IntWalk.i64_in _ (by omega)
    have i6 : PartB Event wr (.slice A2 p c2) p (o.take p) := ⟨(HO.out.ext ExtC.h).upto hp, by rw [List.length_take]; omega⟩
    have i7 : PartB Event wr (.slice (Go.Walk.partAt A2 c2 p 9) (o.length - p) (c2 - p)) (o.length - p) (o.drop p) := ⟨(HO.out.ext ExtC.h).from_ hp, by rw [List.length_drop]⟩
    by_cases lp : p < o.length
    ·obtain ⟨od, rfl, hb⟩ := (HO.out.ext (ExtC.h : Ext _ wr)).elem lp
     obtain ⟨b, hbb⟩ : ∃ b, decide (ltE o[p] ⟨ek, ed, ⟨ec, eo⟩, et, eq, ep, eu, em⟩) = b := ⟨_, rfl⟩
     have Hn := Lib.hid (show b = true → ∀ j (hj : j < o.length), j < p + 1 → ltE o[j] ⟨ek, ed, ⟨ec, eo⟩, et, eq, ep, eu, em⟩ from fun h0 j hj hj2 => by
      by_cases hjp : j = p
      ·subst hjp; rw [h0] at hbb; exact of_decide_eq_true hbb
      ·exact Hz.out j hj (by omega))
     have HP := Lib.hid (show b = false → _ from fun h0 => putE_at hp Hz.out (fun _ => by rw [h0] at hbb; exact of_decide_eq_false hbb))
     obtain ⟨⟨fk, fd, ⟨fc, fo⟩, ft, fq, fp, fu, fm⟩, hy⟩ : ∃ x, o[p] = x := ⟨_, rfl⟩
     rw [hy] at hb hbb
     have i5 : CellsB wr (od.add (p * 9)) [.int .i64 fk, .int .i64 fd, .int .i64 fc, .int .i64 fo, .int .i64 ft, .int .i64 fq, .int .i64 fp, .int .i64 fu, .int .i64 fm] := ⟨hb⟩
     have i8 := BefE.mk hbb
     have Hy := Lib.hid hy
     clear hb hbb hy
     go_wp2
     refine wp_rd ((.take 0 (.take 1 (.take 2 (.take 3 (.take 4 (.take 5 (.take 6 (.take 7 (.take 8 (.take 9 (.take 10 (.take 11 (.take 12 (.one 13 (.take 14 .nil)))))))))))))))) (fun hHeld => ?_) (hQ := by intro _ _ _ _ _ h; exact h)
     repeat' first | ((with_reducible refine t_tk ?_); (first | (refine tk (v := ?_) ?_ hHeld ?_; rotate_left; (· (intro wq hSw; go_simp; (try with_reducible rfl)))) | (refine tw (v := ?_) ?_ hHeld ?_; rotate_left; (· (intro W' h; have := StepC.mk h; first | with_reducible exact run_lc))) | (refine tw (v := ?_) ?_ hHeld ?_; rotate_left; (· (intro wq hSw; go_simp; (try with_reducible rfl))))); (try simp only [pS])) | ((with_reducible refine t_on ?_); refine t_one (by simp only [gS]; rfl) ?_) | ((first | with_reducible refine callop_g ?_); first | (rintro _ V ⟨rfl, (_ : StepC _ _)⟩; refine ⟨_, rfl, ?_⟩)) | ((with_reducible refine q_nl ?_); clear hHeld; refine t_next ExtC.h (fun hHeld => ?_); (try simp only [pS])) | (with_reducible refine t_done ?_)
     all_goals
      cases b
      ·have hE := fun W => eql80 W fk fd fc fo ft fq fp fu fm ek ed ec eo et eq ep eu em
       obtain ⟨b2, hb2⟩ : ∃ b, decide ((⟨fk, fd, ⟨fc, fo⟩, ft, fq, fp, fu, fm⟩ : Event) = ⟨ek, ed, ⟨ec, eo⟩, et, eq, ep, eu, em⟩) = b := ⟨_, rfl⟩
       simp only [hb2] at hE
       have Hb2 := Lib.hid hb2
       clear hb2
       go_wp2
       refine wp_rd ((.take 0 (.take 1 (.take 2 (.take 3 (.take 4 (.take 5 (.take 6 (.take 7 (.take 8 (.take 9 (.take 10 (.take 11 (.take 12 (.take 13 (.take 14 (.take 15 .nil))))))))))))))))) (fun hHeld => ?_) (hQ := by intro _ _ _ _ _ h; exact h)
       repeat' first | ((with_reducible refine t_tk ?_); (first | (refine tk (v := ?_) ?_ hHeld ?_; rotate_left; (· (intro wq hSw; go_simp; (try with_reducible rfl)))) | (refine tw (v := ?_) ?_ hHeld ?_; rotate_left; (· (intro W' h; have := StepC.mk h; first | with_reducible exact run_lc))) | (refine tw (v := ?_) ?_ hHeld ?_; rotate_left; (· (intro wq hSw; go_simp; (try with_reducible rfl))))); (try simp only [pS])) | (with_reducible refine t_done ?_)
       all_goals
        cases b2
        ·have HQ := Lib.hid ((HP.out trivial).2 fun _ h => by rw [Hy.out] at h; exact of_decide_eq_false Hb2.out h)
         clear HP Hn
         go_wp2
         refine wp_rd ((.take 1 (.take 2 (.take 3 (.take 5 (.take 6 (.take 7 (.take 8 (.take 11 (.take 12 (.take 13 (.two 0 (.two 4 (.one 9 (.one 10 (.one 14 (.take 15 .nil)))) 9 (.one 4 (.one 10 (.one 14 (.take 15 .nil))))) 9 (.one 0 (.one 4 (.one 10 (.one 14 (.take 15 .nil))))))))))))))))) (fun hHeld => ?_) (hQ := by intro _ _ _ _ _ h; exact h)
         repeat' first | ((with_reducible refine t_tk ?_); (first | (refine tk (v := ?_) ?_ hHeld ?_; rotate_left; (· (intro W' h; have := StepC.mk h; first | with_reducible exact run_lc | with_reducible exact run_upto | with_reducible exact run_from))) | (refine tk (v := ?_) ?_ hHeld ?_; rotate_left; (· (intro wq hSw; go_simp; (try with_reducible rfl))))); (try simp only [pS])) | ((with_reducible refine t_on ?_); refine t_one (by simp only [gS]; rfl) ?_) | ((with_reducible refine t_tw ?_); refine t_two (by simp only [gS]; rfl) (by simp only [gS]; rfl) ?_ ?_) | (with_reducible refine bslice0_c ?_; intro Vz gz hEz hRz) | (with_reducible refine bslice_c ?_; intro Vb g9 _ _ _) | (with_reducible refine append_c ?_; intro A9 c9 Va hR hG) | (with_reducible refine append_s ?_; intro A9 c9 Va hR hG) | ((with_reducible refine q_nl ?_); clear hHeld; refine t_next ExtC.h (fun hHeld => ?_); (try simp only [pS])) | (with_reducible refine t_done ?_)
         all_goals
          go_wp2
          rw [Nat.zero_add] at hR
          have hR := hR.base (v0 := w) (ExtC.h : Ext w _).size
          obtain ⟨A8, c8, e8, h8⟩ := put_rel hR (o' := o.take p ++ (⟨ek, ed, ⟨ec, eo⟩, et, eq, ep, eu, em⟩ : Event) :: o.drop p) (by simp [Walk.encL, Enc.enc]) (by simp; omega)
          exact ⟨⟨⟨ExtC.h⟩, k + 1, _, A8, c8, lk, by push_cast; rfl, by rw [Hs.out, HQ.out], e8, inferInstance, by simp; omega⟩, by simp [RowKit.intOf]; omega⟩
        ·have HQ := Lib.hid ((HP.out trivial).1 ⟨lp, by rw [Hy.out]; exact of_decide_eq_true Hb2.out⟩)
         clear HP Hn
         go_wp2
         exact ⟨⟨⟨ExtC.h⟩, k + 1, o, some od, c2, lk, by push_cast; rfl, by rw [Hs.out, HQ.out], rfl, inferInstance, by omega⟩, by simp [RowKit.intOf]; omega⟩
      ·have Hn2 := Lib.hid (Hn.out rfl)
       clear Hn HP
       go_wp2
       go_roundw
       case rel => exact ⟨⟨ExtC.h⟩, p + 1, lp, by push_cast; rfl, Hn2.out⟩
       case measure => simp [RowKit.intOf]; omega
    ·have HQ := Lib.hid ((putE_at hp Hz.out (fun h => absurd h lp)).2 fun h => absurd h lp)
     go_wp2
     refine wp_rd ((.take 0 (.take 1 (.take 2 (.take 3 (.take 4 (.take 5 (.take 6 (.take 7 (.take 8 (.take 9 (.take 10 (.take 11 (.take 12 (.one 13 (.take 14 .nil)))))))))))))))) (fun hHeld => ?_) (hQ := by intro _ _ _ _ _ h; exact h)
     repeat' first | ((with_reducible refine t_tk ?_); (first | (refine tk (v := ?_) ?_ hHeld ?_; rotate_left; (· (intro wq hSw; go_simp; (try with_reducible rfl)))) | (refine ts hHeld ?_)); (try simp only [pS])) | ((with_reducible refine t_on ?_); refine t_one (by simp only [gS]; rfl) ?_) | (with_reducible refine skip_g ?_) | ((with_reducible refine q_nl ?_); clear hHeld; refine t_next ExtC.h (fun hHeld => ?_); (try simp only [pS])) | (with_reducible refine t_done ?_)
     all_goals
      go_wp2
      refine wp_rd ((.take 0 (.take 1 (.take 2 (.take 3 (.take 4 (.take 5 (.take 6 (.take 7 (.take 8 (.take 9 (.take 10 (.take 11 (.take 12 (.take 13 (.take 14 (.take 15 .nil))))))))))))))))) (fun hHeld => ?_) (hQ := by intro _ _ _ _ _ h; exact h)
      repeat' first | ((with_reducible refine t_tk ?_); (first | (refine tk (v := ?_) ?_ hHeld ?_; rotate_left; (· (intro wq hSw; go_simp; (try with_reducible rfl)))) | (refine ts hHeld ?_)); (try simp only [pS])) | (with_reducible refine t_done ?_)
      all_goals
       go_wp2
       refine wp_rd ((.take 1 (.take 2 (.take 3 (.take 5 (.take 6 (.take 7 (.take 8 (.take 11 (.take 12 (.take 13 (.two 0 (.two 4 (.one 9 (.one 10 (.one 14 (.take 15 .nil)))) 9 (.one 4 (.one 10 (.one 14 (.take 15 .nil))))) 9 (.one 0 (.one 4 (.one 10 (.one 14 (.take 15 .nil))))))))))))))))) (fun hHeld => ?_) (hQ := by intro _ _ _ _ _ h; exact h)
       repeat' first | ((with_reducible refine t_tk ?_); (first | (refine tk (v := ?_) ?_ hHeld ?_; rotate_left; (· (intro W' h; have := StepC.mk h; first | with_reducible exact run_lc | with_reducible exact run_upto | with_reducible exact run_from))) | (refine tk (v := ?_) ?_ hHeld ?_; rotate_left; (· (intro wq hSw; go_simp; (try with_reducible rfl))))); (try simp only [pS])) | ((with_reducible refine t_on ?_); refine t_one (by simp only [gS]; rfl) ?_) | ((with_reducible refine t_tw ?_); refine t_two (by simp only [gS]; rfl) (by simp only [gS]; rfl) ?_ ?_) | (with_reducible refine bslice0_c ?_; intro Vz gz hEz hRz) | (with_reducible refine bslice_c ?_; intro Vb g9 _ _ _) | (with_reducible refine append_c ?_; intro A9 c9 Va hR hG) | (with_reducible refine append_s ?_; intro A9 c9 Va hR hG) | ((with_reducible refine q_nl ?_); clear hHeld; refine t_next ExtC.h (fun hHeld => ?_); (try simp only [pS])) | (with_reducible refine t_done ?_)
       all_goals
        go_wp2
        rw [Nat.zero_add] at hR
        have hR := hR.base (v0 := w) (ExtC.h : Ext w _).size
        obtain ⟨A8, c8, e8, h8⟩ := put_rel hR (o' := o.take p ++ (⟨ek, ed, ⟨ec, eo⟩, et, eq, ep, eu, em⟩ : Event) :: o.drop p) (by simp [Walk.encL, Enc.enc]) (by simp; omega)
        exact ⟨⟨⟨ExtC.h⟩, k + 1, _, A8, c8, lk, by push_cast; rfl, by rw [Hs.out, HQ.out], e8, inferInstance, by simp; omega⟩, by simp [RowKit.intOf]; omega⟩
  ·obtain rfl : k = l.length := by omega
   rw [List.take_length] at ho
   subst ho
   go_wp2
   go_ret
   exact ⟨A2, c2, rfl, inferInstance, ⟨ExtC.h⟩⟩
instance qRSi20 {W : World} {v : Value} {l : List Event} [h : ListC Event W v l] [q : LenC2 l] : FunC Tryz.prog 62 #[v] W (RLW W 80 (sortE l)) := ⟨rsorted_any v l W h.h q.h⟩
end Go.Rg
end
section
namespace Go.Rg
open Go Go.Bp Go.RowKit Go.Walk Go.Proofs
set_option synthInstance.maxSize 2000
set_option synthInstance.maxHeartbeats 400000
set_option maxHeartbeats 4000000
class RSrtE (r : Rules) (p : Person) (b : outParam Int) (l : outParam (List Event)) (n : outParam Int) : Prop where h : r.sortedAns p = (b, l, n)
abbrev RPers2 (W : World) (b : Int) (l : List Event) (n : Int) (e : Ending) (W' : World) : Prop := ∃ A c, e = .returned (.tuple #[.agg #[.int .i64 b, .slice A l.length c], .int .i64 n]) ∧ ListB Event W' (.slice A l.length c) l ∧ StepC W W'
theorem per_len {r : Rules} {p : Person} (h : r.personErr p = 0) : p.events.length ≤ 30 := by
 unfold Rules.personErr at h
 by_cases h1 : r.check.2.2 ≠ 0
 ·rw [if_pos h1] at h; exact absurd h h1
 ·rw [if_neg h1] at h
  by_cases h2 : inB p.born 0 40000 = false
  ·rw [if_pos h2] at h; simp at h
  ·rw [if_neg h2] at h
   by_cases h3 : 30 < p.events.length
   ·rw [if_pos h3] at h; simp at h
   ·omega
set_option maxHeartbeats 8000000 in
theorem rSorted_any (r : Rules) (p : Person) (v pv : Value) (b : Int) (l : List Event) (n : Int) (w : World) (h : RulesV w v r) (hp : PersonV w pv p) (hs : r.sortedAns p = (b, l, n)) : Calls Tryz.prog 19 #[v, pv] w (RPers2 w b l n) := by
 have i1 := RulesB.mk h
 have i2 := PersonB.mk hp
 obtain ⟨A1, n1, c1, A2, c2, A3, c3, rfl, hn1, -⟩ := h.h
 subst hn1
 obtain ⟨A, c, rfl, hl⟩ := hp.h
 have i3 := ListB.mk hl
 unfold Rules.sortedAns at hs
 by_cases hz : r.personErr p = 0
 ·rw [if_neg (by simp [hz])] at hs
  injection hs with m1 m2
  injection m2 with m2 m3
  subst m1 m2 m3
  have i4 := RPerE.mk hz
  have i5 : LenC2 p.events := ⟨by have := per_len hz; omega⟩
  clear hz
  go_enter Tryz.func19, Tryz.ntmps19
  go_wp2_with (first | (with_reducible refine box_c (d := some 3) ?_; intro V3 g3 hE3 hB3 hA3) | (first | (with_reducible refine load_c ?_) | (with_reducible refine call_c ?_; first | rintro _ V ⟨rfl, (_ : StepC _ _)⟩) | (with_reducible refine box_c ?_; intro V g _ _ _) | (with_reducible refine alloc_c ?_; intro V g _ _ _)))
  refine wp_rt ((.take 0 (.take 1 (.take 2 (.take 3 (.one 4 (.take 5 (.one 6 (.take 7 .nil))))))))) (fun w' => Ext w w' ∧ Blk w' g3 31 #[.int .i64 p.born, .slice A p.events.length c]) ?_ (fun hHeld => ?_) (hQ := by intro _ _ _ _ _ h; exact h)
  ·exact ⟨ExtC.h, (inferInstance : BlkC _ g3 31 _).h⟩
  repeat' first | ((with_reducible refine t_tk ?_); (first | (refine tk (v := ?_) ?_ hHeld ?_; rotate_left; (· (intro W' h; obtain ⟨h, ha⟩ := h; have := StepC.mk h; have i6 : BlkC W' g3 31 [.int .i64 p.born, .slice A p.events.length c] := ⟨ha⟩; first | with_reducible exact run_lc))) | (refine tk (v := ?_) ?_ hHeld ?_; rotate_left; (· (intro wq hSw; go_simp; (try with_reducible rfl))))); (try simp only [pS])) | ((with_reducible refine t_on ?_); refine t_one (by simp only [gS]; rfl) ?_) | (with_reducible refine store_c ?_; intro Vs hS hSB) | ((with_reducible refine callop_c ?_); first | (rintro _ Vc ⟨As, cs, rfl, (_ : RowC _ _ _ _ _ _ _), (_ : StepC _ _)⟩; refine ⟨_, rfl, ?_⟩)) | ((with_reducible refine q_nl ?_); clear hHeld; refine t_next ⟨ExtC.h, (inferInstance : BlkC _ g3 31 _).h⟩ (fun hHeld => ?_); (try simp only [pS])) | (with_reducible refine t_done ?_)
  all_goals
   go_wp2
   exact ret_cell2 rfl rfl (by with_unfolding_all rfl) ⟨As, cs, rfl, ⟨(inferInstance : RowC _ (.slice As (sortE p.events).length cs) _ 80 9 _ _).list rfl rfl rfl⟩, ⟨ExtC.h⟩⟩
 ·rw [if_pos hz] at hs
  injection hs with m1 m2
  injection m2 with m2 m3
  subst m1 m2 m3
  obtain ⟨er, her⟩ : ∃ e, r.personErr p = e := ⟨_, rfl⟩
  have i4 := RPerE.mk her
  rw [her] at hz ⊢
  have q : (er != 0) = true := by simpa using hz
  clear hz her
  go_enter Tryz.func19, Tryz.ntmps19
  go_wp2_with (first | (with_reducible refine load_c ?_) | (with_reducible refine call_c ?_; first | rintro _ V ⟨rfl, (_ : StepC _ _)⟩) | (with_reducible refine store_c ?_; intro V _ _) | (with_reducible refine box_c ?_; intro V g _ _ _) | (with_reducible refine alloc_c ?_; intro V g _ _ _))
  exact ret_cell2 rfl rfl (by with_unfolding_all rfl) ⟨none, 0, rfl, ⟨ListV.nil⟩, ⟨ExtC.h⟩⟩
instance qRSi215 {W : World} {v pv : Value} {r : Rules} {p : Person} {b : Int} {l : List Event} {n : Int} [h : RulesC W v r] [hp : PersonC W pv p] [q : RSrtE r p b l n] : FunC Tryz.prog 19 #[v, pv] W (RPers2 W b l n) := ⟨rSorted_any r p v pv b l n W h.h hp.h q.h⟩
end Go.Rg
end
