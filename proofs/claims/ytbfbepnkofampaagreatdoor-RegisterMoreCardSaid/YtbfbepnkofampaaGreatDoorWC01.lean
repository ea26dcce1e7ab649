/- Chapter 11: contracts of functions of the program and of the reference, and plain laws (out of RgL RgW RgX RRe RRn). No condition of its own. -/
import Derived.Test.YtbfbepnkofampaaGreatDoorWBCDE01
import Derived.Test.YtbfbepnkofampaaGreatDoorWCD01
import Derived.Test.YtbfbepnkofampaaGreatDoorWCF01
set_option maxRecDepth 100000
set_option linter.all false
section
namespace Go.Rg
open Go.Bp
theorem plus_mono {a b term : Int} (h0 : 0 ≤ a) (hab : a ≤ b) (hb : b ≤ 40000) (ht : 0 ≤ term) (ht2 : term ≤ 100) (h : (plusAns a term 0).2 ≠ 0) : (plusAns b term 0).2 ≠ 0 := by
  obtain ⟨va, va2, va3⟩ := date_ok (day := a) h0 (by omega)
  obtain ⟨vb, vb2, vb3⟩ := date_ok (day := b) (by omega) hb
  have hle := (ord_lt va vb).1 (by omega)
  rcases plus_cases (day := b) (term := term) (by omega) hb ht ht2 with ⟨e, _⟩ | ⟨hy, e, hm⟩
  · rw [e]; decide
  · exfalso
    rcases plus_cases (day := a) (term := term) h0 (by omega) ht ht2 with ⟨ea, hea⟩ | ⟨_, ea, _⟩
    · have hya : (dateOf a).year + term ≤ 2200 := by omega
      have Va := later_valid (day := a) (term := term) h0 (by omega) ht (by omega)
      have Vb := later_valid (day := b) (term := term) (by omega) hb ht (by omega)
      have hl := (ord_lt Va Vb).2 (by
        rcases hle with h1 | ⟨h1, h2 | ⟨h2, h3⟩⟩
        · exact .inl (by omega)
        · exact .inr ⟨by omega, .inl h2⟩
        · refine .inr ⟨by omega, .inr ⟨h2, ?_⟩⟩
          rw [h1, h2]; omega)
      have := hea hya
      rw [e] at hm
      simp only at hm
      omega
    · rw [ea] at h; exact h rfl
namespace Rules
variable (r : Rules)
end Rules
end Go.Rg
end
section
namespace Go.Rg
open Go.Bp
namespace Rules
variable {r : Rules}
theorem endOf_mono {a b cls : Int} (ht : 0 ≤ (r.sys.at_ cls).term ∧ (r.sys.at_ cls).term ≤ 100) (h0 : 0 ≤ a) (hab : a ≤ b) (hb : b ≤ 40000) : r.endOf a cls ≤ r.endOf b cls := by
  by_cases h0' : (r.sys.at_ cls).term = 0
  · unfold endOf; simp only; rw [if_pos h0', if_pos h0']; omega
  · have hle := endOf_le (r := r) (day := a) ht h0 (by omega)
    by_cases hn : (plusAns b (r.sys.at_ cls).term 0).2 = 0
    · have ea : (plusAns a (r.sys.at_ cls).term 0).2 = 0 := by
        rcases Int.decEq (plusAns a (r.sys.at_ cls).term 0).2 0 with h | h
        · exact absurd hn (plus_mono h0 hab hb ht.1 ht.2 h)
        · exact h
      unfold endOf
      simp only
      rw [if_neg h0', if_pos ea, if_neg h0', if_pos hn]
      rcases plus_cases (day := a) h0 (by omega) ht.1 ht.2 with ⟨e1, _⟩ | ⟨ha, e1, _⟩
      · rw [e1] at ea; simp at ea
      rcases plus_cases (day := b) (by omega) hb ht.1 ht.2 with ⟨e2, _⟩ | ⟨hb', e2, _⟩
      · rw [e2] at hn; simp at hn
      rw [e1, e2]
      simp only
      obtain ⟨va, va2, va3⟩ := date_ok (day := a) h0 (by omega)
      obtain ⟨vb, vb2, vb3⟩ := date_ok (day := b) (by omega) hb
      have hle := (ord_lt va vb).1 (by omega)
      have Va := later_valid (day := a) h0 (by omega) ht.1 (by omega)
      have Vb := later_valid (day := b) (by omega) hb ht.1 (by omega)
      refine (ord_lt Va Vb).2 ?_
      rcases hle with h1 | ⟨h1, h2 | ⟨h2, h3⟩⟩
      · exact .inl (by omega)
      · exact .inr ⟨by omega, .inl h2⟩
      · refine .inr ⟨by omega, .inr ⟨h2, ?_⟩⟩
        rw [h1, h2]; omega
    · have : r.endOf b cls = 40001 := by unfold endOf; simp only; rw [if_neg h0', if_neg hn]
      omega
end Rules
end Go.Rg
end
section
namespace Go.Rg
open Go.Bp
namespace Rules
variable {r : Rules}
theorem renewed_le {l1 l2 : List Event} {y : Right} {day : Int} (ht : 0 ≤ (r.sys.at_ y.cls).term ∧ (r.sys.at_ y.cls).term ≤ 100) (hb : ∀ d, r.bannedBy l1 d = 0 → r.bannedBy l2 d = 0) : ∀ (zs : List Event) (e1 e2 from_ : Int), zs.Pairwise (fun a b => a.day ≤ b.day) → (∀ z ∈ zs, 0 ≤ z.day ∧ z.day ≤ 40000) → e1 ≤ e2 → 0 ≤ from_ → from_ ≤ 40000 → e2 = r.endOf from_ y.cls → from_ ≤ day ∨ (∀ z ∈ zs, from_ ≤ z.day) → r.renewed l1 y day zs e1 ≤ r.renewed l2 y day zs e2
  | [], _, _, _, _, _, h, _, _, _, _ => h
  | z :: zs, e1, e2, from_, hp, hd, he, hf, hf2, hend, hord => by
    rw [List.pairwise_cons] at hp
    have hz := hd z (by simp)
    have hzs : ∀ w ∈ zs, 0 ≤ w.day ∧ w.day ≤ 40000 := fun w hw => hd w (by simp [hw])
    have hle : e2 ≤ 40001 := by rw [hend]; exact endOf_le ht hf hf2
    have hord' : from_ ≤ day ∨ (∀ z ∈ zs, from_ ≤ z.day) := by
      rcases hord with h | h
      · exact .inl h
      · exact .inr fun w hw => h w (by simp [hw])
    unfold renewed
    by_cases c2 : z.kind = 2 ∧ e2 < 40001 ∧ z.cls = y.cls ∧ day ≤ z.day ∧ z.day < e2 ∧ r.bannedBy l2 z.day = 0
    · rw [if_pos c2]
      have hfz : from_ ≤ z.day := by
        rcases hord with h | h
        · omega
        · exact h z (by simp)
      have hm := endOf_mono (r := r) (cls := y.cls) ht hf hfz hz.2
      rw [c2.2.2.1]
      refine renewed_le ht hb zs _ _ z.day hp.2 hzs ?_ hz.1 hz.2 rfl (.inr fun w hw => hp.1 w hw)
      split
      · exact Int.le_refl _
      · omega
    · rw [if_neg c2]
      split
      · rename_i c1
        have h1 : e2 = 40001 := by
          rcases Int.lt_or_le e2 40001 with h | h
          · exact absurd ⟨c1.1, h, c1.2.2.1, c1.2.2.2.1, by omega, hb _ c1.2.2.2.2.2⟩ c2
          · omega
        have := endOf_le (r := r) (cls := z.cls) (day := z.day) (by rw [c1.2.2.1]; exact ht) hz.1 hz.2
        exact renewed_le ht hb zs _ _ from_ hp.2 hzs (by omega) hf hf2 hend hord'
      · exact renewed_le ht hb zs _ _ from_ hp.2 hzs he hf hf2 hend hord'
theorem why_0 {born : Int} {l : List Event} {d : Drive} : r.whyL born l d = 0 ↔ r.bannedBy l d.day = 0 ∧ r.sys.allow (heldL (r.grants born l) d.day) d.cls d.features = true := by
  unfold whyL
  split
  · rename_i h; constructor
    · intro h2; exact absurd h2 h
    · rintro ⟨h2, _⟩; exact absurd h2 h
  · rename_i h; rw [whyG_0]; exact ⟨fun h2 => ⟨by simpa using h, h2⟩, fun h2 => h2.2⟩
theorem more_law {p q : Person} (h : r.personErr p = 0) (h' : r.personErr q = 0) (hbq : q.born = p.born) (hb : ∀ d, r.bannedBy (sortE p.events) d = 0 → r.bannedBy (sortE q.events) d = 0) (hm : ∀ x ∈ p.events, (x.kind = 0 ∨ x.kind = 1) → x ∈ q.events)
    (hr : (sortE p.events).filter (fun x => decide (x.kind = 2)) = (sortE q.events).filter fun x => decide (x.kind = 2)) {d : Drive} (hd : r.driveErr p d = 0) :
    ∃ a b n m, r.heldAns p d.day = (a, 0) ∧ r.heldAns q d.day = (b, 0) ∧ r.whyAns p d = (n, 0) ∧ r.whyAns q d = (m, 0) ∧ (n = 0 → m = 0) ∧ (∀ c f : Int, 0 ≤ c ∧ c < r.sys.classes.length → r.sys.allow a c f = true → r.sys.allow b c f = true) ∧
      (∀ y ∈ a, r.sys.rightErr y = 0) ∧ (∀ y ∈ b, r.sys.rightErr y = 0) ∧ a.length ≤ 30 ∧ b.length ≤ 30 := by
  obtain ⟨d1, d2, d3, d4⟩ := drive_ok hd
  obtain ⟨h1, h2, h3, h4⟩ := person_ok h
  have ho := ok_of h1
  have hd' : r.driveErr q d = 0 := by unfold driveErr at hd ⊢; rw [hbq]; exact hd
  have he : ∀ x ∈ sortE p.events, (x.kind = 0 ∨ x.kind = 1) → r.endG (sortE p.events) x ≤ r.endG (sortE q.events) x := by
    intro x hx _
    have hxd := event_days h x hx
    unfold endG
    rw [renewed_filter (sortE p.events), renewed_filter (sortE q.events), hr]
    refine renewed_le (term_ok ho _) hb _ _ _ x.day (sorted_days.filter _) (fun z hz => event_days h' z (List.mem_filter.1 hz).1) (Int.le_refl _) hxd.1 hxd.2 rfl (.inl (Int.le_refl _))
  have sub : ∀ y, y ∈ heldL (r.grants p.born (sortE p.events)) d.day → y ∈ heldL (r.grants p.born (sortE q.events)) d.day := by
    intro y hy
    rw [held_mem sorted_days] at hy ⊢
    obtain ⟨x, hx, k1, k2, k3⟩ := hy
    have := he x hx.meets.mem hx.meets.kind
    exact ⟨x, hx.mono hb (fun z hz hk => (sortE_mem _ _).2 (hm z ((sortE_mem _ _).1 hz) hk)) he, k1, by omega, k3⟩
  obtain ⟨a1, a2⟩ := held_ok h d.day
  obtain ⟨b1, b2⟩ := held_ok h' d.day
  have a3 := Sys.least_len a1; have b3 := Sys.least_len b1
  have a4 : ∀ y ∈ r.sys.least (heldL (r.grants p.born (sortE p.events)) d.day), r.sys.rightErr y = 0 := fun y hy => a1 y ((Sys.ordered_mem a1 y).1 (List.mem_filter.1 hy).1)
  have b4 : ∀ y ∈ r.sys.least (heldL (r.grants q.born (sortE q.events)) d.day), r.sys.rightErr y = 0 := fun y hy => b1 y ((Sys.ordered_mem b1 y).1 (List.mem_filter.1 hy).1)
  have ew : r.whyAns p d = (r.whyL p.born (sortE p.events) d, 0) := by
    unfold whyAns; rw [if_neg (by simpa using h), if_neg (by simpa using hd)]
  have ew' : r.whyAns q d = (r.whyL q.born (sortE q.events) d, 0) := by
    unfold whyAns; rw [if_neg (by simpa using h'), if_neg (by simpa using hd')]
  have amono : ∀ c f, r.sys.allow (heldL (r.grants p.born (sortE p.events)) d.day) c f = true → r.sys.allow (heldL (r.grants q.born (sortE q.events)) d.day) c f = true := by
    intro c f h
    rw [Sys.allow_any, List.any_eq_true] at h ⊢
    obtain ⟨y, hy, h⟩ := h
    rw [hbq]
    exact ⟨y, sub y hy, h⟩
  have hw : r.whyL p.born (sortE p.events) d = 0 → r.whyL q.born (sortE q.events) d = 0 := by
    rw [why_0, why_0]
    rintro ⟨k1, k2⟩
    exact ⟨hb _ k1, amono _ _ k2⟩
  rw [heldAns_of h d1 d2, heldAns_of h' d1 (by omega), ew, ew']
  by_cases e1 : r.bannedBy (sortE p.events) d.day = 0
  · rw [if_neg (by simpa using e1), if_neg (by simpa using hb _ e1)]
    refine ⟨_, _, _, _, rfl, rfl, rfl, rfl, hw, fun c f hc hal => ?_, a4, b4, by omega, by omega⟩
    rw [Sys.allow_least ho.sys a1 hc] at hal
    rw [Sys.allow_least ho.sys b1 hc]
    exact amono c f hal
  · rw [if_pos e1]
    by_cases e2 : r.bannedBy (sortE q.events) d.day = 0
    · rw [if_neg (by simpa using e2)]
      exact ⟨_, _, _, _, rfl, rfl, rfl, rfl, hw, fun c f _ hal => by simp [Sys.allow] at hal, by simp, b4, by simp, by omega⟩
    · rw [if_pos e2]
      exact ⟨_, _, _, _, rfl, rfl, rfl, rfl, hw, fun c f _ hal => by simp [Sys.allow] at hal, by simp, by simp, by simp, by simp⟩
theorem more_grant {p : Person} {z : Event} (hk : z.kind = 0 ∨ z.kind = 1) : (∀ d, r.bannedBy (sortE p.events) d = 0 → r.bannedBy (sortE (p.events ++ [z])) d = 0) ∧ (∀ x ∈ p.events, (x.kind = 0 ∨ x.kind = 1) → x ∈ p.events ++ [z]) ∧
    (sortE p.events).filter (fun x => decide (x.kind = 2)) = (sortE (p.events ++ [z])).filter fun x => decide (x.kind = 2) := by
  have hal : Alike (sortE p.events) (sortE (p.events ++ [z])) := alike_of fun x h0 h1 => by
    have : x ≠ z := fun e => by subst e; omega
    simp [this]
  exact ⟨fun d h => by rw [← hal.banned]; exact h, fun x hx _ => List.mem_append_left _ hx, hal.ren⟩
theorem more_ban {p : Person} {z : Event} (hk : z.kind = 4) : (∀ d, r.bannedBy (sortE (p.events ++ [z])) d = 0 → r.bannedBy (sortE p.events) d = 0) ∧ (∀ x ∈ p.events ++ [z], (x.kind = 0 ∨ x.kind = 1) → x ∈ p.events) ∧
    (sortE (p.events ++ [z])).filter (fun x => decide (x.kind = 2)) = (sortE p.events).filter fun x => decide (x.kind = 2) := by
  refine ⟨fun d h => ?_, fun x hx hk0 => ?_, sort_filter fun x hx => ?_⟩
  · have ho : r.offs (sortE (p.events ++ [z])) = r.offs (sortE p.events) := offs_congr (sort_filter fun x hx => by
      unfold isOff at hx; rw [decide_eq_true_eq] at hx
      have : x ≠ z := fun e => by subst e; omega
      simp [this])
    unfold bannedBy at h ⊢
    rw [ho] at h
    split at h; · simp at h
    rename_i h1
    rw [if_neg]
    · exact h
    · intro h2
      apply h1
      obtain ⟨s, hs, h3⟩ := has_mem.1 h2
      refine has_mem.2 ⟨s, ?_, h3⟩
      unfold courts at hs ⊢
      obtain ⟨x, hx, rfl⟩ := List.mem_map.1 hs
      obtain ⟨hx, h4⟩ := List.mem_filter.1 hx
      refine List.mem_map.2 ⟨x, List.mem_filter.2 ⟨?_, h4⟩, rfl⟩
      rw [sortE_mem] at hx ⊢
      exact List.mem_append_left _ hx
  · rcases List.mem_append.1 hx with h | h
    · exact h
    · rw [List.mem_singleton] at h; subst h; omega
  · rw [decide_eq_true_eq] at hx
    have : x ≠ z := fun e => by subst e; omega
    simp [this]
end Rules
end Go.Rg
end
section
namespace Go.Rg
open Go Go.Bp Go.RowKit Go.Walk Go.Proofs
set_option synthInstance.maxSize 2000
set_option synthInstance.maxHeartbeats 400000
set_option maxHeartbeats 4000000
class HasE (s : Int) (n : Nat) (b : outParam Bool) : Prop where h : (0 ≤ s ∧ s < 1000000) ∧ n ≤ 8 ∧ s.toNat.testBit n = b
theorem testBit_div (s n : Nat) : s.testBit n = decide (s / 2 ^ n % 2 = 1) := by
 rw [Nat.testBit_eq_decide_div_mod_eq]
theorem Has_any (s : Int) (n : Nat) (hs : 0 ≤ s ∧ s < 1000000) (hn : n ≤ 8) (w : World) : Calls Tryz.prog 98 #[.int .i64 s, .int .i64 n] w (RB w (s.toNat.testBit n)) := by
 obtain ⟨s', rfl⟩ : ∃ k : Nat, s = (k : Int) := ⟨s.toNat, by omega⟩
 obtain ⟨M, hM⟩ : ∃ M : Int, 2 ^ n = M := ⟨_, rfl⟩
 have i1 : PowE n M := ⟨hn, hM⟩
 have hp := pow_bd hn
 rw [hM] at hp
 rw [testBit_div, Int.toNat_natCast]
 obtain ⟨q, hq⟩ : ∃ q : Nat, s' / 2 ^ n = q := ⟨_, rfl⟩
 have e1 : (s' : Int).tdiv M = (q : Int) := by rw [Int.tdiv_eq_ediv_of_nonneg (by omega), ← hM, ← hq]; push_cast; rfl
 have hqb : q ≤ s' := by rw [← hq]; exact Nat.div_le_self _ _
 have e2 : ((q : Nat) : Int).tmod 2 = ((q % 2 : Nat) : Int) := by rw [Int.tmod_eq_emod_of_nonneg (by omega)]; push_cast; rfl
 rw [hq]
 obtain ⟨r, hr⟩ : ∃ r : Nat, q % 2 = r := ⟨_, rfl⟩
 rw [hr] at e2 ⊢
 have hr2 : r < 2 := by omega
 have z1 : IntKind.i64.wrap ((q : Nat) : Int) = (q : Int) := IntWalk.i64_in _ (by omega)
 have z2 : IntKind.i64.wrap ((r : Nat) : Int) = (r : Int) := IntWalk.i64_in _ (by omega)
 have z3 : (M == 0) = false := by simp; omega
 obtain ⟨d, hd⟩ : ∃ d, decide (r = 1) = d := ⟨_, rfl⟩
 have hd2 : (((r : Nat) : Int) == 1) = d := by rw [← hd]; by_cases h : r = 1 <;> simp [h]; omega
 rw [hd]
 have z4 : ¬ M = 0 := by omega
 clear hM hq hr hd
 go_enter Tryz.func98, Tryz.ntmps98
 go_wp2_with (first | (with_reducible refine call_c ?_; first | rintro _ V ⟨rfl, (_ : StepC _ _)⟩))
 go_ret
 exact ⟨rfl, ⟨ExtC.h⟩⟩
instance qRRe16 {W : World} {s : Int} {n : Nat} {b : Bool} [h : HasE s n b] : FunC Tryz.prog 98 #[.int .i64 s, .int .i64 n] W (RB W b) := ⟨by rw [← h.h.2.2]; exact Has_any s n h.h.1 h.h.2.1 W⟩
end Go.Rg
end
section
namespace Go.Rg
open Go Go.Bp Go.RowKit Go.Walk Go.Proofs
set_option synthInstance.maxSize 2000
set_option synthInstance.maxHeartbeats 400000
set_option maxHeartbeats 4000000
def freeTo (a b : Nat) (k : Nat) : Bool := (List.range k).all fun j => !(a.testBit j && b.testBit j)
theorem freeTo_succ (a b k : Nat) : freeTo a b (k + 1) = (freeTo a b k && !(a.testBit k && b.testBit k)) := by unfold freeTo; rw [List.range_succ, List.all_append]; simp
theorem freeTo_all {a b n : Nat} (ha : a < 2 ^ n) : freeTo a b n = decide (a &&& b = 0) := by
 rw [Bool.eq_iff_iff, decide_eq_true_eq]
 unfold freeTo
 rw [List.all_eq_true]
 constructor
 ·intro h
  apply Nat.eq_of_testBit_eq
  intro j
  rw [Nat.testBit_and, Nat.zero_testBit]
  by_cases hj : j < n
  ·have := h j (List.mem_range.2 hj)
   cases h1 : a.testBit j <;> cases h2 : b.testBit j <;> simp_all
  ·have : a.testBit j = false := Nat.testBit_lt_two_pow (Nat.lt_of_lt_of_le ha (Nat.pow_le_pow_right (by decide) (by omega)))
   rw [this]; rfl
 ·intro h j _
  have := congrArg (fun x => x.testBit j) h
  simp only [Nat.testBit_and, Nat.zero_testBit] at this
  simp [this]
set_option maxHeartbeats 8000000 in
theorem Allowed_any (s : Sys) (v lv : Value) (l : List Right) (c : Nat) (f : Int) (w : World) (h : SysV w v s) (hl : ListV w lv l) (hc : c < s.classes.length) (hn : s.classes.length ≤ 12) (hk : s.codes.length ≤ 8) (hio : s.InclOk) (hr : ∀ r ∈ l, s.rightErr r = 0) (hf : 0 ≤ f ∧ f < 256) :
  Calls Tryz.prog 52 #[v, lv, .int .i64 c, .int .i64 f] w (RB w (s.allow l c f)) := by
 obtain ⟨A, n, cp, A', c', rfl, hnn, -⟩ := h.h
 obtain ⟨B, kb, rfl, q1, q2⟩ := hl.form
 unfold maxLen at q2
 have i1 := SysB.mk h
 obtain ⟨R, hR⟩ : ∃ R, s.allow l c f = R := ⟨_, rfl⟩
 rw [hR]
 have HT := Lib.hid (show ∀ i (hi : i < l.length), s.covers l[i].cls c = true → decide (l[i].codes.toNat &&& f.toNat = 0) = true → R = true from fun i hi h1 h2 => by
  rw [← hR]; unfold Sys.allow
  exact List.any_eq_true.2 ⟨l[i], List.getElem_mem hi, by rw [h1, h2]; rfl⟩)
 have HF := Lib.hid (show (∀ i (hi : i < l.length), (s.covers l[i].cls c && decide (l[i].codes.toNat &&& f.toNat = 0)) = false) → R = false from fun h => by
  rw [← hR]; unfold Sys.allow
  rw [List.any_eq_false]
  intro r hr
  obtain ⟨i, hi, rfl⟩ := List.mem_iff_getElem.1 hr
  rw [h i hi]; simp)
 have Hr := Lib.hid hr
 have Hnn := Lib.hid hnn
 have Hio := Lib.hid hio
 have hcn : c < n := by omega
 have hn12 : n ≤ 12 := by omega
 clear hR hr hnn hio hc hn
 go_enter Tryz.func52, Tryz.ntmps52
 go_wp2_with (first | (with_reducible refine box_c ?_; intro V g _ _ _))
 go_loopw [9] (fun iv wr => StepC V wr ∧ ∃ i : Nat, i ≤ l.length ∧ iv = .int .i64 i ∧ ∀ j (hj : j < i) (h1 : j < l.length), (s.covers l[j].cls c && decide (l[j].codes.toNat &&& f.toNat = 0)) = false) (fun iv _ => l.length - (RowKit.intOf iv).toNat)
 case atStart => exact ⟨⟨ExtC.h⟩, 0, by omega, rfl, fun j hj => by omega⟩
 case round =>
  obtain ⟨_, i, hi, rfl, hz⟩ := hrel
  have Hz := Lib.hid hz
  clear hz
  by_cases li : i < l.length
  ·obtain ⟨ad, rfl, ha⟩ := (hl.ext (ExtC.h : Ext w wr)).elem li
   have hre := Sys.right_in (Hr.out l[i] (List.getElem_mem li))
   have hT := HT.out i li
   have Hnx := Lib.hid (show (s.covers l[i].cls c && decide (l[i].codes.toNat &&& f.toNat = 0)) = false → ∀ j (hj : j < i + 1) (h1 : j < l.length), (s.covers l[j].cls c && decide (l[j].codes.toNat &&& f.toNat = 0)) = false from fun h j hj h1 => by
    by_cases hji : j = i
    ·subst hji; exact h
    ·exact Hz.out j (by omega) h1)
   obtain ⟨⟨rc, ro⟩, hx⟩ : ∃ x, l[i] = x := ⟨_, rfl⟩
   rw [hx] at ha hre hT Hnx
   simp only at hre hT Hnx
   obtain ⟨y, rfl⟩ : ∃ y : Nat, rc = (y : Int) := ⟨rc.toNat, by omega⟩
   obtain ⟨o, ho⟩ : ∃ o, s.coverL (y : Int) = o := ⟨_, rfl⟩
   have hol : o.length = n := by rw [← ho]; unfold Sys.coverL; rw [Sys.sweeps_len]; simp; exact Hnn.out.symm
   obtain ⟨t, ht⟩ : ∃ t, s.covers (y : Int) (c : Int) = t := ⟨_, rfl⟩
   have i2 : CovE s y n o := ⟨⟨by omega, Hnn.out.symm, hn12, Hio.out⟩, ho⟩
   have i3 : GetB o c t := ⟨by omega, by rw [← ht, ← ho]; rfl⟩
   have hp := pow_bd hk
   have hro : 0 ≤ ro ∧ ro < 256 := by have := hre.2; unfold Sys.sets at this; omega
   have hro2 : ro.toNat < 2 ^ s.codes.length := by
    have := hre.2.2; unfold Sys.sets at this
    have e : ((2 ^ s.codes.length : Nat) : Int) = 2 ^ s.codes.length := by push_cast; rfl
    omega
   have Hfin := Lib.hid (freeTo_all (b := f.toNat) hro2)
   have i4 : CellsB wr (ad.add (i * 2)) [.int .i64 y, .int .i64 ro] := ⟨ha⟩
   have zi : IntKind.i64.wrap ((i : Int) + 1) = (i : Int) + 1 := IntWalk.i64_in _ (by omega)
   rw [ht] at hT Hnx
   have HT2 := Lib.hid hT
   clear ha hx hre ho hol ht hp hro2 hT
   go_wp2
   go_loopw [10, 11] (fun fv iv wr2 => StepC wr wr2 ∧ ∃ k : Nat, k ≤ s.codes.length ∧ fv = .bool (freeTo ro.toNat f.toNat k) ∧ iv = .int .i64 k) (fun _ iv _ => s.codes.length - (RowKit.intOf iv).toNat)
   case atStart => exact ⟨⟨ExtC.h⟩, 0, by omega, rfl, rfl⟩
   case round =>
    obtain ⟨_, k, hk2, rfl, rfl⟩ := hrel
    by_cases lk : k < s.codes.length
    ·obtain ⟨d1, e1⟩ : ∃ d, ro.toNat.testBit k = d := ⟨_, rfl⟩
     obtain ⟨d2, e2⟩ : ∃ d, f.toNat.testBit k = d := ⟨_, rfl⟩
     have i5 : HasE ro k d1 := ⟨⟨hro.1, by omega⟩, by omega, e1⟩
     have i6 : HasE f k d2 := ⟨⟨hf.1, by omega⟩, by omega, e2⟩
     have hs := freeTo_succ ro.toNat f.toNat k
     rw [e1, e2] at hs
     obtain ⟨fr, hfr⟩ : ∃ x, freeTo ro.toNat f.toNat k = x := ⟨_, rfl⟩
     rw [hfr] at hs ⊢
     have Hs := Lib.hid hs
     have zk : IntKind.i64.wrap ((k : Int) + 1) = (k : Int) + 1 := IntWalk.i64_in _ (by omega)
     clear e1 e2 hs hfr
     cases fr
     ·go_wp2_with (first | (with_reducible refine load_c ?_))
      go_roundw
      case rel => exact ⟨⟨ExtC.h⟩, k + 1, lk, by rw [Hs.out]; rfl, rfl⟩
      case measure => simp [RowKit.intOf]; omega
     ·cases d1 <;> cases d2
      all_goals
       go_wp2_with (first | (with_reducible refine load_c ?_) | (with_reducible refine load_g ?_) | (with_reducible refine call_c ?_; first | rintro _ V ⟨rfl, (_ : StepC _ _)⟩))
       go_roundw
       case rel => exact ⟨⟨ExtC.h⟩, k + 1, lk, by rw [Hs.out]; rfl, rfl⟩
       case measure => simp [RowKit.intOf]; omega
    ·obtain rfl : k = s.codes.length := by omega
     rw [Hfin.out]
     obtain ⟨u, hu⟩ : ∃ u, decide (ro.toNat &&& f.toNat = 0) = u := ⟨_, rfl⟩
     rw [hu] at HT2 Hnx ⊢
     clear hu
     cases u
     ·have Hn := Lib.hid (Hnx.out (by simp))
      clear HT2 Hnx
      go_wp2_with (first | (with_reducible refine load_c ?_))
      refine wp_rd ((.take 0 (.take 1 (.take 2 (.take 3 (.take 4 (.take 5 (.take 6 (.take 7 (.take 9 (.one 8 (.take 10 (.one 11 (.take 12 .nil)))))))))))))) (fun hHeld => ?_) (hQ := by intro _ _ _ _ _ h; exact h)
      repeat' first | ((with_reducible refine t_tk ?_); (first | (refine tk (v := ?_) ?_ hHeld ?_; rotate_left; (· (intro wq hSw; go_simp; (try with_reducible rfl)))) | (refine ts hHeld ?_)); (try simp only [pS])) | ((with_reducible refine t_on ?_); refine t_one (by simp only [gS]; rfl) ?_) | (with_reducible refine skip_g ?_) | ((with_reducible refine q_nl ?_); clear hHeld; refine t_next ExtC.h (fun hHeld => ?_); (try simp only [pS])) | (with_reducible refine t_done ?_)
      go_wp2
      exact ⟨⟨⟨ExtC.h⟩, i + 1, li, by push_cast; rfl, Hn.out⟩, by simp [RowKit.intOf]; omega⟩
     ·cases t
      ·have Hn := Lib.hid (Hnx.out (by simp))
       clear HT2 Hnx
       go_wp2_with (first | (with_reducible refine load_c ?_))
       refine wp_rd ((.take 0 (.take 1 (.take 2 (.take 3 (.take 4 (.take 5 (.take 6 (.take 7 (.take 9 (.one 8 (.take 10 (.one 11 (.take 12 .nil)))))))))))))) (fun hHeld => ?_) (hQ := by intro _ _ _ _ _ h; exact h)
       repeat' first | ((with_reducible refine t_tk ?_); (first | (refine tk (v := ?_) ?_ hHeld ?_; rotate_left; (· (intro wq hSw; go_simp; (try with_reducible rfl)))) | (refine tw (v := ?_) ?_ hHeld ?_; rotate_left; (· (intro W' h; have := StepC.mk h; first | with_reducible exact run_lc))) | (refine tw (v := ?_) ?_ hHeld ?_; rotate_left; (· (intro wq hSw; go_simp; (try with_reducible rfl))))); (try simp only [pS])) | ((with_reducible refine t_on ?_); refine t_one (by simp only [gS]; rfl) ?_) | (with_reducible refine load_g ?_) | ((first | with_reducible refine callop_g ?_); first | (rintro _ V ⟨gq, rfl, _, (_ : StepC _ _)⟩; refine ⟨_, rfl, ?_⟩)) | ((with_reducible refine q_nl ?_); clear hHeld; refine t_next ExtC.h (fun hHeld => ?_); (try simp only [pS])) | (with_reducible refine t_done ?_)
       go_wp2
       exact ⟨⟨⟨ExtC.h⟩, i + 1, li, by push_cast; rfl, Hn.out⟩, by simp [RowKit.intOf]; omega⟩
      ·obtain rfl := HT2.out rfl rfl
       clear HT2 Hnx
       go_wp2_with (first | (with_reducible refine load_c ?_))
       refine wp_rd ((.take 0 (.take 1 (.take 2 (.take 3 (.take 4 (.take 5 (.take 6 (.take 7 (.take 9 (.one 8 (.take 10 (.one 11 (.take 12 .nil)))))))))))))) (fun hHeld => ?_) (hQ := by intro _ _ _ _ _ h; exact h)
       repeat' first | ((with_reducible refine t_tk ?_); (first | (refine tk (v := ?_) ?_ hHeld ?_; rotate_left; (· (intro wq hSw; go_simp; (try with_reducible rfl)))) | (refine tw (v := ?_) ?_ hHeld ?_; rotate_left; (· (intro W' h; have := StepC.mk h; first | with_reducible exact run_lc))) | (refine tw (v := ?_) ?_ hHeld ?_; rotate_left; (· (intro wq hSw; go_simp; (try with_reducible rfl))))); (try simp only [pS])) | ((with_reducible refine t_on ?_); refine t_one (by simp only [gS]; rfl) ?_) | (with_reducible refine load_g ?_) | ((first | with_reducible refine callop_g ?_); first | (rintro _ V ⟨gq, rfl, _, (_ : StepC _ _)⟩; refine ⟨_, rfl, ?_⟩)) | ((with_reducible refine q_nl ?_); clear hHeld; refine t_next ExtC.h (fun hHeld => ?_); (try simp only [pS])) | (with_reducible refine t_done ?_)
       go_wp2
       go_ret
       exact ⟨rfl, ⟨ExtC.h⟩⟩
  ·obtain rfl : i = l.length := by omega
   obtain rfl := HF.out fun j hj => Hz.out j hj hj
   go_wp2
   go_ret
   exact ⟨rfl, ⟨ExtC.h⟩⟩
class AllE (s : Sys) (l : List Right) (c f : Int) (r : outParam Bool) : Prop where h : ((∃ k : Nat, c = k ∧ k < s.classes.length) ∧ s.classes.length ≤ 12 ∧ s.codes.length ≤ 8 ∧ s.InclOk ∧ (∀ r ∈ l, s.rightErr r = 0) ∧ 0 ≤ f ∧ f < 256) ∧ s.allow l c f = r
instance qRRn16 {W : World} {v lv : Value} {s : Sys} {l : List Right} {c f : Int} {r : Bool} [h : SysC W v s] [hl : ListC Right W lv l] [q : AllE s l c f r] : FunC Tryz.prog 52 #[v, lv, .int .i64 c, .int .i64 f] W (RB W r) := ⟨by
 obtain ⟨⟨⟨k, h1, h2⟩, h3, h4, h5, h6, h7⟩, h8⟩ := q.h
 subst h1
 rw [← h8]
 exact Allowed_any s v lv l k f W h.h hl.h h2 h3 h4 h5 h6 h7⟩
end Go.Rg
end
