/- Texts MapN P21 P20 Spec19 Spec20 Spec21 Spec22 P22 of the proof, merged: contracts of functions of chapter 10, of the program and of the reference, and plain laws. -/
import Derived.Lib.AtoiAll
import Derived.Lib.ItoaMem
import Derived.Lib.Split
import Derived.LoopIn
import Derived.Test.YthomnkgiaapljaaGreatDoorD04
import Derived.Test.YthomnkgiaapljaaGreatDoorD06
section
/- Maps as functions: 'm[k] = v'; a look-up of one result. No program stands in it. -/
set_option maxRecDepth 100000
namespace Go.Bp
open Go.RowKit
section
variable {κ : Type} [DecidableEq κ] {kd : TypeDesc} {kv : κ → Value}
variable {P : Program} {w : World} {t k e : TypeId} {g : Nat} {m : κ → Option Value}
theorem run_look1 (K : KeyKind κ kd kv) (ht : P.underlying t = some (.map k e)) (hk : P.underlying k = some kd) (h : MapM kv w g m) (a : κ) {z : Value} (hz : (zeroValue e).run P w = .ok z w) :
    (Instr.lookup t (.map (some g)) (kv a) false).run P w = .ok ((m a).getD z) w := by
  obtain ⟨es, c, h1, hE⟩ := h
  have hck := K.check P w k 9999 es.isEmpty a hk
  unfold Instr.lookup
  simp only [Sem.run_bind, run_underlying ht, Result.andThen_ok, MapKept.run_getObj_map h1, Sem.run_pure, hck]
  unfold Instr.findKey
  simp only [Sem.run_bind, run_underlying hk, Result.andThen_ok]
  rcases hE.look a with ⟨h2, h3⟩ | ⟨i, hi, h2, h3, h4⟩
  · rw [findNow_none K a es.toList 0 hE.keys h3, h2]
    simp [hz]
  · rw [findNow_some K a es.toList 0 i hi hE.keys h2 h4, h3]
    simp
theorem Ents.push (K : KeyKind κ kd kv) {es : Array MapEntry} {c : Nat} (hE : Ents kv es.toList c m) {a : κ} (hn : m a = none) (v : Value) : Ents kv (es.push { key := kv a, val := v, born := c }).toList (c + 1) (upd m a v) := by
  have hno : ∀ e ∈ es.toList, e.key ≠ kv a := by
    rcases hE.look a with ⟨_, h3⟩ | ⟨i, hi, _, h3, _⟩
    · exact h3
    · rw [hn] at h3; cases h3
  have hl : (es.push { key := kv a, val := v, born := c }).toList = es.toList ++ [{ key := kv a, val := v, born := c }] := by simp
  rw [hl]
  refine ⟨fun e he => ?_, fun e he => ?_, ?_, fun b => ?_⟩
  · rcases List.mem_append.1 he with he | he
    · exact hE.keys e he
    · simp at he; exact ⟨a, by rw [he]⟩
  · rcases List.mem_append.1 he with he | he
    · have := hE.born e he; omega
    · simp at he; rw [he]; simp
  · rw [List.pairwise_append]
    refine ⟨hE.rises, by simp, fun x hx y hy => ?_⟩
    simp at hy; rw [hy]; exact hE.born x hx
  · by_cases hb : b = a
    · subst hb
      right
      refine ⟨es.toList.length, by simp, by simp, by simp [upd], fun j hj => ?_⟩
      rw [List.getElem_append_left (by simpa using hj)]
      exact hno _ (List.getElem_mem _)
    · rcases hE.look b with ⟨h2, h3⟩ | ⟨i, hi, h2, h3, h4⟩
      · left
        refine ⟨by simp [upd, hb, h2], fun e he => ?_⟩
        rcases List.mem_append.1 he with he | he
        · exact h3 e he
        · simp at he; rw [he]; exact fun h => hb (K.inj h).symm
      · right
        refine ⟨i, by rw [List.length_append]; omega, by rw [List.getElem_append_left hi]; exact h2, by rw [List.getElem_append_left hi]; simp [upd, hb, h3], fun j hj => ?_⟩
        rw [List.getElem_append_left (by omega)]; exact h4 j hj
theorem Ents.set (K : KeyKind κ kd kv) {es : Array MapEntry} {c : Nat} (hE : Ents kv es.toList c m) {a : κ} {i : Nat} (hi : i < es.toList.length) (hk : es.toList[i].key = kv a) (hn : ∀ j (hj : j < i), es.toList[j].key ≠ kv a) (v : Value) :
    Ents kv (es.modify i fun e => { e with key := kv a, val := v }).toList c (upd m a v) := by
  have hlen : (es.modify i fun e => { e with key := kv a, val := v }).toList.length = es.toList.length := by simp
  have hl : ∀ j (hj : j < es.toList.length), (es.modify i fun e => { e with key := kv a, val := v }).toList[j]'(by simpa using hj) = if i = j then { es.toList[j] with key := kv a, val := v } else es.toList[j] := by
    intro j hj
    rw [Array.getElem_toList, Array.getElem_modify]
    split <;> simp [Array.getElem_toList]
  have hkey : ∀ j (hj : j < es.toList.length), ((es.modify i fun e => { e with key := kv a, val := v }).toList[j]'(by rw [hlen]; exact hj)).key = es.toList[j].key := by
    intro j hj; rw [hl j hj]; split
    · rename_i e1; subst e1; exact hk.symm
    · rfl
  have hborn : ∀ j (hj : j < es.toList.length), ((es.modify i fun e => { e with key := kv a, val := v }).toList[j]'(by rw [hlen]; exact hj)).born = es.toList[j].born := by
    intro j hj; rw [hl j hj]; split <;> rfl
  refine ⟨fun e he => ?_, fun e he => ?_, ?_, fun b => ?_⟩
  · obtain ⟨j, hj, rfl⟩ := List.mem_iff_getElem.1 he
    rw [hlen] at hj
    obtain ⟨x, hx⟩ := hE.keys _ (List.getElem_mem hj)
    exact ⟨x, by rw [hkey j hj]; exact hx⟩
  · obtain ⟨j, hj, rfl⟩ := List.mem_iff_getElem.1 he
    rw [hlen] at hj
    rw [hborn j hj]; exact hE.born _ (List.getElem_mem hj)
  · rw [List.pairwise_iff_getElem]
    intro p q hp hq hpq
    rw [hlen] at hp hq
    rw [hborn p hp, hborn q hq]
    exact List.pairwise_iff_getElem.1 hE.rises p q hp hq hpq
  · by_cases e1 : b = a
    · subst e1
      right
      refine ⟨i, by rw [hlen]; exact hi, by rw [hkey i hi]; exact hk, by rw [hl i hi]; simp [upd], fun j hj => ?_⟩
      rw [hkey j (by omega)]; exact hn j hj
    · rcases hE.look b with ⟨h2, h3⟩ | ⟨q, hq, h2, h3, h4⟩
      · left
        refine ⟨by simp [upd, e1, h2], fun e he => ?_⟩
        obtain ⟨j, hj, rfl⟩ := List.mem_iff_getElem.1 he
        rw [hlen] at hj
        rw [hkey j hj]; exact h3 _ (List.getElem_mem hj)
      · right
        have hqi : i ≠ q := by
          rintro rfl
          exact e1 (K.inj (h2.symm.trans hk))
        refine ⟨q, by rw [hlen]; exact hq, by rw [hkey q hq]; exact h2, by rw [hl q hq, if_neg hqi]; simp [upd, e1, h3], fun j hj => ?_⟩
        rw [hkey j (by omega)]; exact h4 j hj
theorem run_mapUpdate (K : KeyKind κ kd kv) (ht : P.underlying t = some (.map k e)) (hk : P.underlying k = some kd) (h : MapM kv w g m) (a : κ) (v : Value) :
    ∃ W, (Instr.mapUpdate t (.map (some g)) (kv a) v).run P w = .ok () W ∧ MapM kv W g (upd m a v) ∧ w.grownBy W (some g) := by
  obtain ⟨es, c, h1, hE⟩ := h
  have hlt := (Array.getElem?_eq_some_iff.1 h1).1
  have hck := K.check P w k 9999 false a hk
  cases hn : m a with
  | none =>
    have hno : ∀ e ∈ es.toList, e.key ≠ kv a := by
      rcases hE.look a with ⟨_, h3⟩ | ⟨i, hi, _, h3, _⟩
      · exact h3
      · rw [hn] at h3; cases h3
    refine ⟨w.putObj g (.map (es.push { key := kv a, val := v, born := c }) (c + 1)), ?_, ⟨_, _, World.putObj_heap_same hlt, hE.push K hn v⟩, grownBy_putObj' w g _⟩
    unfold Instr.mapUpdate
    simp only [Sem.run_bind, run_underlying ht, Result.andThen_ok, MapKept.run_getObj_map h1, hck]
    unfold Instr.findKey
    simp only [Sem.run_bind, run_underlying hk, Result.andThen_ok]
    rw [findNow_none K a es.toList 0 hE.keys hno]
    simp [MapKept.run_setObj_map _ h1, World.putObj]
  | some u =>
    rcases hE.look a with ⟨h2, _⟩ | ⟨i, hi, h2, h3, h4⟩
    · rw [hn] at h2; cases h2
    have hi' : i < es.size := by simpa using hi
    have hkk : es[i].key = kv a := by simpa using h2
    refine ⟨w.putObj g (.map (es.modify i fun e => { e with key := kv a, val := v }) c), ?_, ⟨_, _, World.putObj_heap_same hlt, hE.set K hi h2 h4 v⟩, grownBy_putObj' w g _⟩
    unfold Instr.mapUpdate
    simp only [Sem.run_bind, run_underlying ht, Result.andThen_ok, MapKept.run_getObj_map h1, hck]
    unfold Instr.findKey
    simp only [Sem.run_bind, run_underlying hk, Result.andThen_ok]
    rw [findNow_some K a es.toList 0 i hi hE.keys h2 h4]
    have hes : es[i]? = some es[i] := Array.getElem?_eq_getElem hi'
    simp only [Sem.run_pure, Result.andThen_ok, Nat.zero_add, hes, Option.map_some, Option.getD_some, hkk, Instr.keyThatStays, K.bits, if_true, Sem.run_bind, MapKept.run_setObj_map _ h1]
    simp [World.putObj]
end
end Go.Bp
end
section
set_option maxRecDepth 100000
set_option linter.unusedSimpArgs false
set_option linter.unusedVariables false
namespace Go.Bp
open Go.RowKit Go.Proofs
theorem ti143 : (Tryz.prog.info? 143).map (fun i => (i.zero, i.size, i.bytes)) = some (some (.map none), 1, 8) := by kernel_rfl
def skv (s : ByteArray) : Value := .string s
theorem strKeys' : KeyKind ByteArray .string skv := strKeys
/-- The map of what is known. -/
def knownM (c : Code) (ls : List Int) (ts : List (List Int)) (k : ByteArray) : Option Value := if known c ls ts k = 0 then none else some (.int .i64 (known c ls ts k))
theorem knownM_nil (c : Code) (ls : List Int) : knownM c ls [] = fun _ => none := by
  funext k; unfold knownM; rw [known_nil]; rfl
theorem knownM_get (c : Code) (ls : List Int) (ts : List (List Int)) (k : ByteArray) : (knownM c ls ts k).getD (.int .i64 0) = .int .i64 (known c ls ts k) := by
  unfold knownM
  by_cases h : known c ls ts k = 0
  · rw [if_pos h, h]; rfl
  · rw [if_neg h]; rfl
theorem knownM_snoc (c : Code) (ls : List Int) (ts : List (List Int)) (t : List Int) : upd (knownM c ls ts) (keyOf ls t) (.int .i64 (orBits (known c ls ts (keyOf ls t)) (verdict c t))) = knownM c ls (ts ++ [t]) := by
  funext k
  unfold upd knownM
  rw [known_snoc]
  by_cases h : k = keyOf ls t
  · subst h
    have hb := known_bd c ls ts (keyOf ls t)
    have hp : orBits (known c ls ts (keyOf ls t)) (verdict c t) ≠ 0 := by
      unfold orBits verdict
      split <;> split <;> (try omega)
      all_goals (split <;> (try omega))
      all_goals (split <;> omega)
    simp only [if_true]
    rw [if_neg hp]
  · have h' : ¬ keyOf ls t = k := fun e => h e.symm
    rw [if_neg h]
    simp only [h', if_false]
theorem conv_rune (w : World) : ∀ (y : Nat), y < 9 → (convert 21 9 (.int .i32 ((97 + y : Nat) : Int))).run Tryz.prog w = .ok (.string (S [UInt8.ofNat (97 + y)])) w
  | 0, _ => by kernel_rfl
  | 1, _ => by kernel_rfl
  | 2, _ => by kernel_rfl
  | 3, _ => by kernel_rfl
  | 4, _ => by kernel_rfl
  | 5, _ => by kernel_rfl
  | 6, _ => by kernel_rfl
  | 7, _ => by kernel_rfl
  | 8, _ => by kernel_rfl
  | n + 9, h => by omega
theorem zero3 (w : World) : (zeroValue 3).run Tryz.prog w = .ok (.int .i64 0) w := by kernel_rfl
set_option maxHeartbeats 4000000 in
theorem penough_any (gv gm : Nat) (fv mv lv v : Value) (c : Code) (s : Sheet) (ls : List Int) (w0 w : World) (hE : Ext w0 w) (hT : TabOk w0.heap.size w (.pointer (some ⟨gv, 0, none⟩)) c s gv gm fv mv lv) (hF : Faults w0 fv c.faults) (hM : Strs w0 mv c.man) (hW : c.wf) (ho : c.Ok) (hs : s.Ok c) (hl : Ints w v ls) (hls : ∀ n ∈ ls, 1 ≤ n ∧ n ≤ s.lines.toNat) (hl12 : ls.length ≤ 12) :
    Calls Tryz.prog 80 #[.pointer (some ⟨gv, 0, none⟩), v] w fun e w' => e = .returned (.bool (enough c (tests c s) ls)) ∧ Ext w w' := by
  have HW := Lib.hid hW; have Ho := Lib.hid ho; have Hs := Lib.hid hs; have Hls := Lib.hid hls
  have hE0 := Ext.refl w
  have lmg := hT.map.lt
  obtain ⟨A, cp, rfl, a1, a2, a3, a4⟩ := id hl
  unfold maxLen at a2
  have Ha4 := Lib.hid a4
  clear hW ho hs hls a3 a4
  refine calls_marks Tryz.func80 rfl ?_
  simp only [Tryz.ntmps80, List.size_toArray, List.length_cons, List.length_nil, Nat.reduceAdd, Nat.reduceSub, Array.replicate_succ, Array.replicate_zero, List.push_toArray, List.append_toArray, List.nil_append, List.cons_append]
  go_wp2_with (first | ((with_reducible refine q_box (d := some 2) ?_); intro W2 g2 hE2 hB2 hg2; simp [Act.eval, Act.put, Value.cells] at hB2; replace hT := hT.ext hE2; replace hE0 := hE0.trans hE2) | ((with_reducible refine q_box (d := some 3) ?_); intro W3 g3 hE3 hB3 hg3; simp [Act.eval, Act.put, Value.cells] at hB3; replace hT := hT.ext hE3; replace hB2 := hB2.ext hE3; replace hE0 := hE0.trans hE3) | ((with_reducible refine q_alloc (d := some 4) ti4 ?_); intro W4 g4 hE4 hB4 hg4; have h40 := Nat.le_trans hE0.size hg4; have hB40 : Blk W4 g4 4 #[.bool false] := hB4; replace hT := hT.ext hE4; replace hB2 := hB2.ext hE4; replace hB3 := hB3.ext hE4; replace hE0 := hE0.trans hE4) | ((with_reducible refine q_makeMap (d := some 11) (kv := skv) ?_); intro W11 gM hE11 hM11 hgM; have hM0 := Nat.le_trans hE0.size hgM; replace hT := hT.ext hE11; replace hB2 := hB2.ext hE11; replace hB3 := hB3.ext hE11; replace hB40 := hB40.ext hE11; replace hE0 := hE0.trans hE11) | ((with_reducible refine q_newvar (e := 143) (u := 5) (v := .map (some gM)) ti143 ?_ ?_ ?_ ?_ ?_ ?_); (intro g; rfl); (intro g; rfl); rfl; rfl; (simp [Value.cells, Value.oneCell']); intro W5 g5 hE5 hB5 hg5; simp [Value.cells] at hB5; have h50 := Nat.le_trans hE0.size hg5; replace hT := hT.ext hE5; replace hB2 := hB2.ext hE5; replace hB3 := hB3.ext hE5; replace hB40 := hB40.ext hE5; replace hM11 := hM11.ext hE5; replace hE0 := hE0.trans hE5; have c2 := cell_blk hB2) | (go_at_call 73; refine (ptests_any gv _).mono ?_; rintro e W73 ⟨gb, rfl, hE73, hgb, hBb⟩; replace hT := hT.ext hE73; replace hB2 := hB2.ext hE73; replace hB3 := hB3.ext hE73; replace hB40 := hB40.ext hE73; replace hM11 := hM11.ext hE73; replace hB5 := hB5.ext hE73; replace hE0 := hE0.trans hE73))
  have n4M : g4 ≠ gM := fun e => hM11.notblk hB40 e.symm
  have l4 := hB40.lt; have lM := hM11.lt
  have nT1 : gv ∉ [g4, gM] := (by simp; exact ⟨blk_ne hT.blk hB40 (by decide), fun e => hM11.notblk hT.blk e.symm⟩)
  have nT2 : gm ∉ [g4, gM] := (by simp; refine ⟨hT.map.notblk hB40, ?_⟩; omega)
  have n2 : g2 ∉ [g4, gM] := (by simp; exact ⟨blk_ne hB2 hB40 (by decide), fun e => hM11.notblk hB2 e.symm⟩)
  have n3 : g3 ∉ [g4, gM] := (by simp; exact ⟨blk_ne hB3 hB40 (by decide), fun e => hM11.notblk hB3 e.symm⟩)
  have n5 : g5 ∉ [g4, gM] := (by simp; exact ⟨blk_ne hB5 hB40 (by decide), fun e => hM11.notblk hB5 e.symm⟩)
  have hEw := hE.trans hE0
  refine wp_rangeTestsA (gb := gb) (gv := gv) (gm := gm) (fv := fv) (mv := mv) (lv := lv) (c := c) (s := s) (w0 := w0) rfl Ho.out Hs.out hEw hF hM hBb hT.blk hT.map [g4, gM] ?hgs ?n1 nT1 nT2 (fun xs W => (∀ k, known c ls xs k ≠ 3) ∧ MapM skv W gM (knownM c ls xs) ∧ Blk W g4 4 #[.bool false]) (fun e xs W => e = .ret ∧ (∃ k, known c ls xs k = 3) ∧ Blk W g4 4 #[.bool false]) ?hR ?hRx ⟨by intro k; rw [known_nil]; decide, by rw [knownM_nil]; exact hM11, hB40⟩ ?body ?done ?stop
  case hgs => intro g hg; simp at hg; have := hE.size; rcases hg with rfl | rfl <;> omega
  case n1 => simp; exact ⟨blk_ne hBb hB40 (by decide), fun e => hM11.notblk hBb e.symm⟩
  case hR =>
    rintro xs A B ⟨h0, ⟨es, ck, h1, h1'⟩, h2⟩ hAB
    exact ⟨h0, ⟨es, ck, (hAB.block _ lM).trans h1, h1'⟩, (hAB.block _ l4).trans h2⟩
  case hRx => rintro e xs A B row ⟨h1, h2, h3⟩ hg hr; exact ⟨h1, h2, h3.ofOwn hg hr⟩
  case body =>
    rintro l pre v t W hn ⟨h0, hm, h4⟩ hv ht hlen hN hsz hx hD
    have c2b := cell_blk (hn.blk hB2 n2)
    have c3b := cell_blk (hn.blk hB3 n3)
    have c5b := cell_blk (hn.blk hB5 n5)
    obtain ⟨_, dt, _, dF, dM⟩ := hD
    have Ht := Lib.hid ht; have H0 := Lib.hid h0
    have hwW : Ext w W := hn.ext hE0 (by intro g hg; simp at hg; rcases hg with rfl | rfl <;> assumption)
    obtain ⟨Av, cv', hve, v1, v2, v3, v4⟩ := hv.ints
    subst hve
    unfold maxLen at v2
    have Hv4 := Lib.hid v4
    clear ht h0 v3 v4
    simp only [Act.put, Act.eval, Array.getD_eq_getD_getElem?, List.setIfInBounds_toArray, List.set_cons_zero, List.set_cons_succ, List.getElem?_toArray, List.getElem?_cons_succ, List.getElem?_cons_zero, Option.getD_some]
    gi_wp2_with (rw [Oper.semAt_eq _ _ _ (fun c h => by cases h)]; go_simp; try go_bits)
    gi_loopw [7, 17] (fun key i Wr => Wr = W ∧ ∃ k : Nat, k ≤ ls.length ∧ i = .int .i64 k ∧ key = .string (keyOf (ls.take k) t)) (fun _ i _ => ls.length - (intOf i).toNat)
    case atStart => exact ⟨rfl, 0, by omega, rfl, rfl⟩
    case round =>
      obtain ⟨rfl, k, hk, rfl, rfl⟩ := hrel
      by_cases hlt : k < ls.length
      · obtain ⟨ad, rfl, hca⟩ := Ha4.out (by omega)
        have e1 := (hca.ext hwW).i hlt
        have hn1 := Hls.out _ (List.getElem_mem hlt)
        obtain ⟨x, hx1⟩ : ∃ x, ls[k] = x := ⟨_, rfl⟩
        rw [hx1] at hn1 e1
        obtain ⟨n, hne⟩ : ∃ n, (x - 1).toNat = n := ⟨_, rfl⟩
        have hnt : n < t.length := by omega
        obtain ⟨ad', rfl, hcb⟩ := Hv4.out (by omega)
        have e2 := hcb.i hnt
        have hx2 := Ht.out.at hnt
        have h9 := Ho.out.thing9
        obtain ⟨y, hy⟩ := Int.eq_ofNat_of_zero_le hx2.1
        obtain ⟨Y, hY⟩ : ∃ Y, t[n] = Y := ⟨_, rfl⟩
        obtain ⟨R, hR⟩ : ∃ R, 97 + y = R := ⟨_, rfl⟩
        have z1 : IntKind.i64.wrap (x - 1) = (n : Int) := by rw [show x - 1 = (n : Int) by omega]; exact IntWalk.i64_in _ (by omega)
        have z2 : IntKind.i64.wrap (97 + Y) = (R : Int) := by rw [show 97 + Y = (R : Int) by omega]; exact IntWalk.i64_in _ (by omega)
        have z3 : IntKind.i32.wrap (R : Int) = (R : Int) := IntWalk.i32_in _ (by omega)
        have hcv : ∀ w, (convert 21 9 (.int .i32 (R : Int))).run Tryz.prog w = .ok (.string (S [UInt8.ofNat R])) w := fun w => by rw [← hR]; exact conv_rune w y (by omega)
        have hkey : keyOf (ls.take k) t ++ S [UInt8.ofNat R] = keyOf (ls.take (k + 1)) t := by
          unfold keyOf
          rw [S_app, take_snoc ls hlt, List.map_append, hx1]
          congr 2
          simp only [List.map_cons, List.map_nil, keyB]
          rw [hne]
          have : t.getD n 0 = t[n] := by simp [List.getD, hnt]
          rw [this, hy, ← hR]; rfl
        have hks : (keyOf (ls.take k) t).size ≤ 1000 := by unfold keyOf; rw [S_size, List.length_map, List.length_take]; omega
        obtain ⟨K0, hK0⟩ : ∃ K0, keyOf (ls.take k) t = K0 := ⟨_, rfl⟩
        obtain ⟨K1, hK1⟩ : ∃ K1, keyOf (ls.take (k + 1)) t = K1 := ⟨_, rfl⟩
        rw [hK0, hK1] at hkey
        rw [hK0] at hks ⊢
        rw [hY] at e2
        have Hkey := Lib.hid hkey; have HK1 := Lib.hid hK1
        clear hkey hK0 hK1 hy hY hne hx1 hca hcb
        have hS1 : (S [UInt8.ofNat R]).size = 1 := by rw [S_size]; rfl
        gi_wp2_with (first | (with_reducible refine in_list rfl (fun _ h => by cases h) (by rintro ⟨_, _, h⟩; exact h) (q_cat (d := some 30) (p := K0) (q := S [UInt8.ofNat R]) ?_ ?_ Hkey.out (by omega) ?_)) | (rw [Oper.semAt_eq _ _ _ (fun c h => by cases h)]; go_simp; try go_bits))
        go_roundw
        case rel => exact ⟨by first | trivial | rfl, k + 1, by omega, by go_num, by rw [Hkey.out, HK1.out]⟩
        case measure => simp [intOf]; omega
      · obtain rfl : k = ls.length := by omega
        rw [List.take_length]
        obtain ⟨key, hkey⟩ : ∃ key, keyOf ls t = key := ⟨_, rfl⟩
        rw [hkey]
        have Hkey := Lib.hid hkey
        clear hkey
        gi_wp2_with (rw [Oper.semAt_eq _ _ _ (fun c h => by cases h)]; go_simp; try go_bits)
        refine ⟨trivial, rfl, CallsIn.inRound l (callsIn_wide.2 ((ptpass_any gv gm fv mv lv _ c s.lines t _ dt dF dM HW.out Ho.out Ht.out hv.ints).mono ?_))⟩
        rintro e W77 ⟨rfl, hE77⟩
        have hn77 : Near [g4, gM] W73 W77 := hn.below (hE77.mono (by omega))
        have h47 := h4.ext hE77; have hm7 := hm.ext hE77
        have c5d := Ext.cell_some hE77 c5b
        obtain ⟨vp, hvp⟩ : ∃ b, c.passed t = b := ⟨_, rfl⟩
        obtain ⟨K, hK⟩ : ∃ K, known c ls pre key = K := ⟨_, rfl⟩
        obtain ⟨K2, hK2⟩ : ∃ K2, orBits K (if vp = true then 2 else 1) = K2 := ⟨_, rfl⟩
        have hv2 : verdict c t = if vp = true then 2 else 1 := by unfold verdict; rw [hvp]
        have hsn := knownM_snoc c ls pre t
        rw [Hkey.out, hK, hv2, hK2] at hsn
        have hlk : (Instr.lookup 143 (.map (some gM)) (.string key) false).run Tryz.prog W77 = .ok (.int .i64 K) W77 := by
          have := run_look1 strKeys' Tryz.underlying143 Tryz.underlying9 hm7 key (zero3 W77)
          rw [knownM_get, hK] at this; exact this
        obtain ⟨W2, hup0, hm2, hgr⟩ := run_mapUpdate strKeys' Tryz.underlying143 Tryz.underlying9 hm7 key (.int .i64 K2)
        have hup : (Instr.mapUpdate 143 (.map (some gM)) (.string key) (.int .i64 K2)).run Tryz.prog W77 = .ok () W2 := hup0
        clear hup0
        rw [hsn] at hm2
        have hK2n : known c ls (pre ++ [t]) key = K2 := by rw [known_snoc, if_pos Hkey.out, hK, hv2, hK2]
        have hlk2 : (Instr.lookup 143 (.map (some gM)) (.string key) false).run Tryz.prog W2 = .ok (.int .i64 K2) W2 := by
          have := run_look1 strKeys' Tryz.underlying143 Tryz.underlying9 hm2 key (zero3 W2)
          rw [knownM_get, hK2n] at this; exact this
        have n5M : g5 ≠ gM := by simp at n5; exact n5.2
        have c5e : W2.cell? ⟨g5, 0, none⟩ = some (.map (some gM)) := (World.cell?_of_block (hgr.block g5 (World.block_lt_of_cell? _ _ c5d) (fun e => n5M (Option.some.inj e)))).trans c5d
        have h42 : Blk W2 g4 4 #[.bool false] := h47.grown hgr (fun e => n4M (Option.some.inj e))
        have c4 := cell_blk h42
        have f4 : W2.frozen? ⟨g4, 0, none⟩ = false := h42.frozen 0
        have hn2 := hn77.grown hgr (fun g e => by cases e; simp)
        have hup2 : Up W73.heap.size wr W2 := (Up.ofExt hE77).trans (Up.grown hgr (fun g e => by cases e; exact lM))
        have hnorm : K2 ≠ 3 → Up W73.heap.size wr W2 ∧ Near [g4, gM] W73 W2 ∧ (∀ k, ¬ known c ls (pre ++ [t]) k = 3) ∧ MapM skv W2 gM (knownM c ls (pre ++ [t])) ∧ Blk W2 g4 4 #[.bool false] := by
          intro h3
          refine ⟨hup2, hn2, fun k => ?_, hm2, h42⟩
          by_cases hk : k = key
          · rw [hk, hK2n]; exact h3
          · rw [known_snoc, if_neg (fun e => hk (e.symm.trans Hkey.out))]; exact H0.out k
        have hret : K2 = 3 → Up W73.heap.size wr (W2.setCell ⟨g4, 0, none⟩ (.bool false)) ∧ Near [g4, gM] W73 (W2.setCell ⟨g4, 0, none⟩ (.bool false)) ∧ Go.Code.ret = .ret ∧ (∃ k, known c ls (pre ++ [t]) k = 3) ∧ Blk (W2.setCell ⟨g4, 0, none⟩ (.bool false)) g4 4 #[.bool false] := by
          intro h3
          have hgr1 := grownBy_setCell' W2 g4 (.bool false)
          have b4 := h42.set_ 0 (.bool false)
          simp at b4
          exact ⟨hup2.trans (Up.grown hgr1 (fun g e => by cases e; exact l4)), hn2.grown hgr1 (fun g e => by cases e; simp), rfl, ⟨key, by rw [hK2n]; exact h3⟩, b4⟩
        have Hnorm := Lib.hid hnorm; have Hret := Lib.hid hret
        have hK3 : K = 0 ∨ K = 1 ∨ K = 2 := by
          have h1 := known_bd c ls pre key
          have h2 := H0.out key
          omega
        have hbo : bits BinOp.or IntKind.i64 K (if vp = true then 2 else 1) = K2 := by rw [← hK2]; rcases hK3 with rfl | rfl | rfl <;> cases vp <;> decide
        rw [hvp]
        clear hnorm hret hsn hv2 hK2n hvp hK hn2 hup2 hm2 h42 hgr hn77 h47 hm7
        rcases hK3 with rfl | rfl | rfl <;> cases vp
        all_goals
          simp [orBits] at hK2
          subst hK2
          simp only [reduceIte, Bool.false_eq_true] at hbo
          gi_wp2_with (rw [Oper.semAt_eq _ _ _ (fun c h => by cases h)]; go_simp; try go_bits)
        all_goals first
          | exact Hnorm.out (by decide)
          | (obtain ⟨q1, q2, _, q4, q5⟩ := Hret.out (by first | rfl | trivial); exact ⟨q1, q2, rfl, q4, q5⟩)
  case done =>
    rintro D W hD hn ⟨h0, hm, h4⟩ hx hK
    have hwx : Ext w W := hn.ext hE0 (by intro g hg; simp at hg; rcases hg with rfl | rfl <;> assumption)
    have Hr := Lib.hid (known_no3 Ho.out (fun t ht => (tests_mem Hs.out ht).1) h0)
    have c4 := cell_blk h4
    have f4 : W.frozen? ⟨g4, 0, none⟩ = false := h4.frozen 0
    have hgr1 := grownBy_setCell' W g4 (.bool true)
    have b4 := h4.set_ 0 (.bool true)
    simp at b4
    have hx2 := below_grown hwx hgr1 h40 hwx.size
    have hDlt := (Array.getElem?_eq_some_iff.1 hK).1
    have hK2 := (hgr1.block D hDlt (fun e => by injection e with e; omega)).trans hK
    clear hgr1 h0 hm
    go_wp2
    refine postM_mark rfl hK2 (ret_c1 rfl rfl rfl (load_one Tryz.underlying4 rfl (cell_blk (show Blk _ g4 4 #[.bool true] from (World.putObj_heap_other (by omega)).trans b4))) ?_)
    rw [Hr.out]
    exact ⟨rfl, below_put hx2 (show w.heap.size ≤ D by have := hE0.size; omega) _⟩
  case stop =>
    rintro D e pre W hD hp hn ⟨rfl, ⟨k, h1⟩, h4⟩ hx hK
    have hwx : Ext w W := hn.ext hE0 (by intro g hg; simp at hg; rcases hg with rfl | rfl <;> assumption)
    have Hr := Lib.hid (known_3 Ho.out (fun t ht => (tests_mem Hs.out ht).1) (fun t ht => hp.subset ht) h1)
    refine wp_ret ?_
    refine postM_mark rfl hK (ret_c1 rfl rfl rfl (load_one Tryz.underlying4 rfl (cell_blk (show Blk _ g4 4 #[.bool false] from (World.putObj_heap_other (by omega)).trans h4))) ?_)
    rw [Hr.out]
    exact ⟨rfl, below_put hwx (show w.heap.size ≤ D by have := hE0.size; omega) _⟩
end Go.Bp
end
section
set_option maxRecDepth 100000
set_option linter.unusedSimpArgs false
set_option linter.unusedVariables false
namespace Go.Bp
open Go.RowKit Go.Proofs
theorem faultNos_sub {c : Code} {t l : List Int} (h : l.Sublist (faultNos c t)) : l.Nodup ∧ ∀ n ∈ l, 1 ≤ n ∧ n ≤ t.length := by
  have h1 : (faultNos c t).Sublist (numbers t.length) := List.filter_sublist
  exact ⟨(numbers_nodup _).sublist (h.trans h1), fun n hn => mem_numbers.1 ((h.trans h1).subset hn)⟩
theorem nodup_take {l : List Int} (h : l.Nodup) {k : Nat} (hk : k < l.length) : l[k] ∉ l.take k := by
  intro hm
  obtain ⟨j, hj, e⟩ := List.mem_take_iff_getElem.1 hm
  have := (List.getElem_inj (h₀ := by omega) (h₁ := hk) h).1 e
  omega
set_option maxHeartbeats 4000000 in
theorem pstruck_any (gt gc : Nat) (tv fv mv v : Value) (c : Code) (t l : List Int) (w : World) (ht : w.cell? ⟨gt, 0, none⟩ = some tv) (hc0 : w.cell? ⟨gc, 0, none⟩ = some fv) (hc1 : w.cell? ⟨gc, 1, none⟩ = some mv) (hc2 : w.cell? ⟨gc, 2, none⟩ = some (.int .i64 c.all))
    (hF : Faults w fv c.faults) (hM : Strs w mv c.man) (hW : c.wf) (ho : c.Ok) (hok : c.TestOk t) (htv : Ints w tv t) (hl : Ints w v l) (hs : l.Sublist (faultNos c t)) :
    Calls Tryz.prog 64 #[v, .pointer (some ⟨gt, 0, none⟩), .pointer (some ⟨gc, 0, none⟩)] w fun e w' => e = .returned (.bool (struck c t l)) ∧ Ext w w' := by
  have Ho := Lib.hid ho; have Ht := Lib.hid hok
  have Hx := Lib.hid (show ∀ x ∈ t, 0 ≤ x ∧ x < 9 from fun x hx => by have := hok.2 x hx; have := ho.thing9; omega)
  have Hl := Lib.hid (show t.length ≤ 1000 by have := hok.1; omega)
  have HW := Lib.hid hW; have Hs := Lib.hid (faultNos_sub hs)
  have hll : l.length ≤ 12 := by have h1 := hs.length_le; have h2 : (faultNos c t).length ≤ (numbers t.length).length := List.length_filter_le _ _; rw [numbers_len] at h2; have := hok.1; omega
  have H0 := Lib.hid (left_none c t)
  obtain ⟨A, cp, rfl, a1, a2, a3, a4⟩ := id hl
  obtain ⟨A', cp', rfl, b1, b2, b3, b4⟩ := id htv
  have Ha4 := Lib.hid a4; have Hb4 := Lib.hid b4
  unfold maxLen at a2 b2
  clear ho hok hW hs a3 b3 a4 b4
  have hE := Ext.refl w
  have htv0 := htv
  go_enter Tryz.func64, Tryz.ntmps64
  go_wp2_with (first | (go_at_call 60; refine (pcount_any _ t _ htv0 Hx.out Hl.out).mono ?_; rintro e W60 ⟨rfl, hE60⟩; have hE1 := hE60) | ((with_reducible refine q_alloc (d := some 5) ti87 ?_); intro W5 g5 hE5 hB5 hg5; have h50 := Nat.le_trans hE1.size hg5; have hB50 : Blk W5 g5 87 (cntArr 9 []) := (by rw [cntArr_nil]; exact hB5); have hE2 := hE1.trans hE5) | ((with_reducible refine q_store (t := 87) (e := 87) (g := g5) (off := 0) (n := 9) (v := .agg (cntArr 9 t)) ?_ ?_ hB50 size87 ?_ ?_ ?_ ?_); rfl; rfl; (simp [Value.cells, cntArr_size]); (simp [cntArr_size]); (intro u hu; simp [Value.cells, cntArr] at hu; obtain ⟨j, _, rfl⟩ := hu; rfl); intro Ws hBs hgrs; rw [putAt_all (by simp [Value.cells, cntArr_size])] at hBs; have hE3 := below_grown hE2 hgrs h50 hE2.size))
  have hBs' : Blk Ws g5 87 (cntArr 9 t) := by simpa [Value.cells] using hBs
  have HW2 := Lib.hid (show Ext w Ws ∧ Blk Ws g5 87 (cntArr 9 t) from ⟨hE3, hBs'⟩)
  clear hBs hBs' hE3 hE2 hgrs hB50
  go_loopw [14] (fun i Wr => ∃ k : Nat, k ≤ l.length ∧ i = .int .i64 k ∧ Ext w Wr ∧ Blk Wr g5 87 (cntArr 9 (without c t (l.take k)).1)) (fun i _ => l.length - (intOf i).toNat)
  case atStart => exact ⟨0, by omega, rfl, HW2.out.1, by rw [List.take_zero, H0.out]; exact HW2.out.2⟩
  case round =>
    obtain ⟨k, hk, rfl, hEr, hBr⟩ := hrel
    clear HW2
    have ct := Ext.cell_some hEr ht
    by_cases hlt : k < l.length
    · obtain ⟨ad, rfl, hca⟩ := Ha4.out (by omega)
      have e1 := (hca.ext hEr).i hlt
      have hn := Hs.out.2 _ (List.getElem_mem hlt)
      have hnd := nodup_take Hs.out.1 hlt
      obtain ⟨n, hne⟩ := Int.eq_ofNat_of_zero_le (show 0 ≤ l[k] by omega)
      obtain ⟨ad', rfl, hcb⟩ := Hb4.out (by omega)
      have hn1 : n - 1 < t.length := by omega
      have e2 := (hcb.ext hEr).i hn1
      have hx := Hx.out _ (List.getElem_mem hn1)
      obtain ⟨j, hje⟩ := Int.eq_ofNat_of_zero_le hx.1
      have hj : j < 9 := by omega
      have hst := cntArr_strike (c := c) (t := t) (ls := l.take k) (n := n) (k := 9) (by omega) (by rw [← hne]; exact hnd) hn1 hx.1 hx.2
      have e3 := cnt_cell hBr hj
      have hjn : (t[n - 1]).toNat = j := by omega
      rw [hjn] at hst
      obtain ⟨m, hm⟩ : ∃ m, Code.cnt (without c t (l.take k)).1 j = m := ⟨_, rfl⟩
      rw [hm] at e3 hst
      have hmle := Code.cnt_le (without c t (l.take k)).1 j
      have hmle2 := leftTo_len c t (l.take k) t.length
      have hmle3 : (without c t (l.take k)).1.length ≤ t.length := hmle2
      have htl := Ht.out.1
      have hts : l.take (k + 1) = l.take k ++ [(n : Int)] := by rw [take_snoc l hlt, hne]
      rw [← hts] at hst
      have Hst := Lib.hid hst.2
      have z1 : IntKind.i64.wrap ((n : Int) - 1) = ((n - 1 : Nat) : Int) := by rw [show (n : Int) - 1 = ((n - 1 : Nat) : Int) by omega]; exact IntWalk.i64_in _ (by omega)
      have z2 : IntKind.i64.wrap ((m : Int) - 1) = (m : Int) - 1 := IntWalk.i64_in _ (by omega)
      rw [hne] at e1
      rw [hje] at e2
      clear hst hts hnd hn hca hcb hm hmle hmle2 hmle3
      have f5 : wr.frozen? ⟨g5, j, none⟩ = false := hBr.frozen j
      have hb5 := hBr.set_ j (.int .i64 ((m : Int) - 1))
      rw [Hst.out] at hb5
      have hgr : wr.grownBy (wr.setCell ⟨g5, j, none⟩ (.int .i64 ((m : Int) - 1))) (some g5) := ⟨rfl, rfl, rfl, by simp [World.setCell], fun i hi hne => Below.heap_setCell wr ⟨g5, j, none⟩ _ i (fun e => hne (by rw [e]))⟩
      have hE5 := below_grown hEr hgr h50 hEr.size
      clear hgr hBr
      go_wp2
      go_roundw
      case rel => exact ⟨k + 1, by omega, by go_num, hE5, hb5⟩
      case measure => simp [intOf]; omega
    · obtain rfl : k = l.length := by omega
      rw [List.take_length] at hBr
      have hok2 := Lib.hid (left_ok (ls := l) Ht.out)
      have k0 := Ext.cell_some hEr hc0; have k1 := Ext.cell_some hEr hc1; have k2 := Ext.cell_some hEr hc2
      go_wp2_with (first | ((with_reducible refine q_load (d := some 29) (hl := ld_tally hBr) ?_ ?_); rfl) | ((with_reducible refine q_load (d := some 30) (hl := ld_code3 k0 k1 k2) ?_ ?_); rfl) | (go_at_call 61; refine (ppasses_any _ c (without c t l).1 _ (CodeV.of (hF.ext hEr) (hM.ext hEr) HW.out) Ho.out hok2.out).mono ?_; rintro e W61 ⟨rfl, hE61⟩))
      go_ret
      exact ⟨rfl, hEr.trans hE61⟩
theorem enters64 : ∀ (args : Array Value) (W : World), (callFunc 64 args).run Tryz.prog W = .ok (.enter 64 args) W := enters_of Tryz.func64 (by kernel_rfl) rfl
theorem appeal_prog {c : Code} {t : List Int} (h : c.whole t = 0) : appealAns c t = match fewestBy (struck c t) (faultNos c t) with | some l => (l, 0) | none => ([], 9) := by
  rw [appeal_faults]; unfold appealAns; rw [if_neg (by simp [h])]
  cases fewestBy (helps c t) (numbers t.length) <;> rfl
set_option maxHeartbeats 4000000 in
theorem PAppeal_any (cv tv : Value) (c : Code) (t : List Int) (w : World) (h : CodeV w cv c) (ht : Ints w tv t) :
    Calls Tryz.prog 21 #[cv, tv] w (RetOI w (appealAns c t).1 (appealAns c t).2) := by
  obtain ⟨fv, mv, rfl, hF, hM, hW⟩ := h
  have hE := Ext.refl w
  have HW := Lib.hid hW
  clear hW
  obtain ⟨A, cp, rfl, a1, a2, a3, a4⟩ := id ht
  unfold maxLen at a2
  have Ha4 := Lib.hid a4
  clear a3 a4
  have ht0 := ht; have hF0 := hF; have hM0 := hM
  by_cases ha : c.whole t = 0
  · obtain ⟨ho, hok, h1⟩ := Code.whole_zero ha
    have Ho := Lib.hid ho; have Hok := Lib.hid hok
    have q1 : (c.whole t != 0) = false := by simp [ha]
    have Hr := Lib.hid (appeal_prog ha)
    have Ha := Lib.hid ha
    have htl := hok.1
    have hnf : c.faults.length ≤ 6 := ho.nf2
    clear ha ho hok
    go_enter Tryz.func21, Tryz.ntmps21
    go_wp2_with (first | (go_at_call 59; ((with_reducible refine (pwhole_any _ _ c t _ (by exact CodeV.of hF hM HW.out) (by exact ht)).mono ?_); rintro e Wc1 ⟨rfl, hEc1⟩; (try replace hEc1 := Ext.undrew hEc1); (try replace hE := hE.trans hEc1); (try replace hF := hF.ext hEc1); (try replace hM := hM.ext hEc1); (try replace ht := ht.ext hEc1); (try replace hB2 := hB2.ext hEc1); (try replace hB3 := hB3.ext hEc1); (try replace hb2_0 := Ext.cell_some hEc1 hb2_0); (try replace hb2_1 := Ext.cell_some hEc1 hb2_1); (try replace hb2_2 := Ext.cell_some hEc1 hb2_2); (try replace hb3_0 := Ext.cell_some hEc1 hb3_0))) | ((with_reducible refine q_box (d := some 2) ?_); intro W2 g2 hE2 hB2 hg2; simp [Act.eval, Act.put, Value.cells] at hB2; (try replace hE := hE.trans hE2); (try replace hF := hF.ext hE2); (try replace hM := hM.ext hE2); (try replace ht := ht.ext hE2); (try replace hB2 := hB2.ext hE2); (try replace hB3 := hB3.ext hE2); (try replace hb2_0 := Ext.cell_some hE2 hb2_0); (try replace hb2_1 := Ext.cell_some hE2 hb2_1); (try replace hb2_2 := Ext.cell_some hE2 hb2_2); (try replace hb3_0 := Ext.cell_some hE2 hb3_0); have hb2_0 := hB2.cell 0; have hb2_1 := hB2.cell 1; have hb2_2 := hB2.cell 2; simp at hb2_0 hb2_1 hb2_2; clear hE2) | ((with_reducible refine q_box (d := some 3) ?_); intro W3 g3 hE3 hB3 hg3; simp [Act.eval, Act.put, Value.cells] at hB3; (try replace hE := hE.trans hE3); (try replace hF := hF.ext hE3); (try replace hM := hM.ext hE3); (try replace ht := ht.ext hE3); (try replace hB2 := hB2.ext hE3); (try replace hB3 := hB3.ext hE3); (try replace hb2_0 := Ext.cell_some hE3 hb2_0); (try replace hb2_1 := Ext.cell_some hE3 hb2_1); (try replace hb2_2 := Ext.cell_some hE3 hb2_2); (try replace hb3_0 := Ext.cell_some hE3 hb3_0); have hb3_0 := hB3.cell 0; simp at hb3_0; clear hE3))
    go_loopw [7, 21] (fun f i Wr => ∃ k : Nat, k ≤ t.length ∧ i = .int .i64 k ∧ Ext Wc1 Wr ∧ OwnI Wc1.heap.size Wr f (faultNosTo c t k)) (fun _ i _ => t.length - (intOf i).toNat)
    case atStart => exact ⟨0, by omega, rfl, Ext.refl _, OwnI.nil _ _⟩
    case round =>
      obtain ⟨k, hk, rfl, hEr, hO⟩ := hrel
      have k20 := Ext.cell_some hEr hb2_0; have k21 := Ext.cell_some hEr hb2_1; have k22 := Ext.cell_some hEr hb2_2; have k30 := Ext.cell_some hEr hb3_0
      have hEw := hE.trans hEr
      by_cases hlt : k < t.length
      · obtain ⟨ad, rfl, hca⟩ := Ha4.out (by omega)
        have e1 := (hca.ext hEw).i hlt
        have hsn := Lib.hid (faultNosTo_succ c t hlt)
        have hfl := faultNosTo_len c t k
        have z1 : IntKind.i64.wrap ((k : Int) + 1) = (k : Int) + 1 := IntWalk.i64_in _ (by omega)
        obtain ⟨x, hx⟩ : ∃ x, t[k] = x := ⟨_, rfl⟩
        rw [hx] at e1 hsn
        have hn1 : Wc1.heap.size ≤ wr.heap.size := hEr.size
        obtain ⟨Af, cf, hfe, _, _, _, _⟩ := hF0
        subst hfe
        clear hca
        by_cases hxf : x < (c.faults.length : Int)
        · go_wp2_with (first | ((with_reducible refine q_bsI (d := some 34) (n := (k : Int) + 1) ?_ ?_); rfl; intro Wb gbs hEb hBb hgb; have hO2 := hO.ext hEb; have hEr2 := hEr.trans hEb) | ((with_reducible refine q_appI (d := some 35) rfl hO2 rfl hBb (by omega) hEr2.size ?_); intro v' Wa hOa hbel hgra; have hEr3 := hbel _ hEr2))
          go_roundw
          case rel => exact ⟨k + 1, by omega, by go_num, hEr3, by rw [hsn.out, if_pos hxf]; exact hOa⟩
          case measure => simp [intOf]; omega
        · go_wp2
          go_roundw
          case rel => exact ⟨k + 1, by omega, by go_num, hEr, by rw [hsn.out, if_neg hxf]; exact hO⟩
          case measure => simp [intOf]; omega
      · obtain rfl : k = t.length := by omega
        have hov := hO.ints
        have hfn : faultNosTo c t t.length = faultNos c t := rfl
        rw [hfn] at hov hO
        have hH : HoldsC wr 64 #[] #[.pointer (some ⟨g3, 0, none⟩), .pointer (some ⟨g2, 0, none⟩)] (struck c t) (faultNos c t) := by
          intro l v W hl hW hv
          have hE3 := hEw.trans hW
          have := pstruck_any g3 g2 _ _ _ v c t l W (Ext.cell_some hW k30) (Ext.cell_some hW k20) (Ext.cell_some hW k21) (Ext.cell_some hW k22) (hF0.ext hE3) (hM0.ext hE3) HW.out Ho.out Hok.out (ht0.ext hE3) hv hl
          simpa using this
        have HH := Lib.hid hH
        have hlen : (faultNos c t).length ≤ 12 := by have := faultNosTo_len c t t.length; rw [hfn] at this; omega
        clear hH hfn
        go_wp2_with (first | (go_at_call 65; refine (pfewest_any 64 #[] #[.pointer (some ⟨g3, 0, none⟩), .pointer (some ⟨g2, 0, none⟩)] _ _ (struck c t) _ hov hlen enters64 HH.out).mono ?_; rintro e W65 ⟨v65, b65, rfl, hE65, hR65⟩; cases b65))
        · rcases hR65 with ⟨hb, _⟩ | ⟨_, hn65, hv65⟩
          · cases hb
          · have hr := Hr.out
            rw [hn65] at hr
            go_ret2
            rw [hr]
            exact ⟨_, rfl, IntB.of_own (OwnI.nil 0 _), hEw.trans hE65⟩
        · rcases hR65 with ⟨_, l, hs65, hv65⟩ | ⟨hb, _⟩
          · have hr := Hr.out
            rw [hs65] at hr
            go_ret2
            rw [hr]
            exact ⟨_, rfl, hv65, hEw.trans hE65⟩
          · cases hb
  · have q1 : (c.whole t != 0) = true := by simp [ha]
    have Hr := Lib.hid (show appealAns c t = ([], c.whole t) from appeal_e ha)
    clear ha
    rw [Hr.out]
    go_enter Tryz.func21, Tryz.ntmps21
    go_wp2_with (first | (go_at_call 59; ((with_reducible refine (pwhole_any _ _ c t _ (by exact CodeV.of hF hM HW.out) (by exact ht)).mono ?_); rintro e Wc2 ⟨rfl, hEc2⟩; (try replace hEc2 := Ext.undrew hEc2); (try replace hE := hE.trans hEc2); (try replace hF := hF.ext hEc2); (try replace hM := hM.ext hEc2); (try replace ht := ht.ext hEc2); (try replace hB2 := hB2.ext hEc2); (try replace hB3 := hB3.ext hEc2); (try replace hb2_0 := Ext.cell_some hEc2 hb2_0); (try replace hb2_1 := Ext.cell_some hEc2 hb2_1); (try replace hb2_2 := Ext.cell_some hEc2 hb2_2); (try replace hb3_0 := Ext.cell_some hEc2 hb3_0))) | ((with_reducible refine q_box (d := some 2) ?_); intro W2 g2 hE2 hB2 hg2; simp [Act.eval, Act.put, Value.cells] at hB2; (try replace hE := hE.trans hE2); (try replace hF := hF.ext hE2); (try replace hM := hM.ext hE2); (try replace ht := ht.ext hE2); (try replace hB2 := hB2.ext hE2); (try replace hB3 := hB3.ext hE2); (try replace hb2_0 := Ext.cell_some hE2 hb2_0); (try replace hb2_1 := Ext.cell_some hE2 hb2_1); (try replace hb2_2 := Ext.cell_some hE2 hb2_2); (try replace hb3_0 := Ext.cell_some hE2 hb3_0); have hb2_0 := hB2.cell 0; have hb2_1 := hB2.cell 1; have hb2_2 := hB2.cell 2; simp at hb2_0 hb2_1 hb2_2; clear hE2) | ((with_reducible refine q_box (d := some 3) ?_); intro W3 g3 hE3 hB3 hg3; simp [Act.eval, Act.put, Value.cells] at hB3; (try replace hE := hE.trans hE3); (try replace hF := hF.ext hE3); (try replace hM := hM.ext hE3); (try replace ht := ht.ext hE3); (try replace hB2 := hB2.ext hE3); (try replace hB3 := hB3.ext hE3); (try replace hb2_0 := Ext.cell_some hE3 hb2_0); (try replace hb2_1 := Ext.cell_some hE3 hb2_1); (try replace hb2_2 := Ext.cell_some hE3 hb2_2); (try replace hb3_0 := Ext.cell_some hE3 hb3_0); have hb3_0 := hB3.cell 0; simp at hb3_0; clear hE3))
    go_ret2
    exact ⟨_, rfl, IntB.of_own (OwnI.nil 0 _), hE⟩
end Go.Bp
end
section
/- Plain Lean: reading by parts and numerals is reading by the reference's text. -/
set_option maxRecDepth 100000
namespace Go.Bp
open Go.RowKit
/-- A list cut at a byte. -/
def cutAt (b : UInt8) : List UInt8 → List (List UInt8)
  | [] => [[]]
  | x :: l => if x = b then [] :: cutAt b l else match cutAt b l with | [] => [[x]] | p :: ps => (x :: p) :: ps
theorem cutAt_none {b : UInt8} : ∀ {l : List UInt8}, b ∉ l → cutAt b l = [l]
  | [], _ => rfl
  | x :: l, h => by
    have h1 : x ≠ b := fun e => h (by simp [e])
    have h2 := cutAt_none (l := l) (fun e => h (List.mem_cons_of_mem _ e))
    rw [cutAt, if_neg h1, h2]
theorem cutAt_app {b : UInt8} : ∀ {p : List UInt8} (r : List UInt8), b ∉ p → cutAt b (p ++ b :: r) = p :: cutAt b r
  | [], r, _ => by rw [List.nil_append, cutAt, if_pos rfl]
  | x :: p, r, h => by
    have h1 : x ≠ b := fun e => h (by simp [e])
    have h2 := cutAt_app (p := p) r (fun e => h (List.mem_cons_of_mem _ e))
    rw [List.cons_append, cutAt, if_neg h1, h2]
theorem cutAt_ne (b : UInt8) : ∀ l, cutAt b l ≠ []
  | [] => by simp [cutAt]
  | x :: l => by
    rw [cutAt]
    split
    · simp
    · split <;> simp
/-- The parts put together. -/
def glue (b : UInt8) : List (List UInt8) → List UInt8
  | [] => []
  | [p] => p
  | p :: q :: ps => p ++ b :: glue b (q :: ps)
theorem glue_cut (b : UInt8) : ∀ l, glue b (cutAt b l) = l
  | [] => rfl
  | x :: l => by
    have ih := glue_cut b l
    have hn := cutAt_ne b l
    rw [cutAt]
    split
    · rename_i e
      cases hc : cutAt b l with
      | nil => exact absurd hc hn
      | cons p ps => rw [hc] at ih; rw [glue, ih, e]; rfl
    · cases hc : cutAt b l with
      | nil => exact absurd hc hn
      | cons p ps =>
        rw [hc] at ih
        cases ps with
        | nil => simp only [glue] at ih ⊢; rw [ih]
        | cons q ps => simp only [glue] at ih ⊢; rw [← ih]; rfl
theorem glue_end (b : UInt8) : ∀ (p : List UInt8) (ps : List (List UInt8)), glue b (p :: ps) ++ [b] = p ++ [b] ++ ps.flatMap (fun q => q ++ [b])
  | p, [] => by simp [glue]
  | p, q :: ps => by
    rw [glue, List.append_assoc, List.cons_append, glue_end b q ps]
    simp
theorem cutAt_flat {b : UInt8} : ∀ (ps : List (List UInt8)), (∀ p ∈ ps, b ∉ p) → cutAt b (ps.flatMap fun q => q ++ [b]) = ps ++ [[]]
  | [], _ => rfl
  | p :: ps, h => by
    rw [List.flatMap_cons, List.append_assoc, List.singleton_append, cutAt_app _ (h p (by simp)), cutAt_flat ps (fun q hq => h q (by simp [hq]))]
    rfl
theorem getD_at {l : List UInt8} {i : Nat} (h : i < l.length) : l.getD i 0 = l[i] := by rw [List.getD_eq_getElem?_getD, List.getElem?_eq_getElem h]; rfl
/-- The reference's parts. -/
theorem splTo_cut (s : ByteArray) (b : UInt8) : ∀ i, i ≤ s.size → cutAt b s.data.toList = (splTo s b i).1.map (·.data.toList) ++ cutAt b (s.data.toList.drop (splTo s b i).2) ∧ (splTo s b i).2 ≤ i ∧ (∀ j, (splTo s b i).2 ≤ j → j < i → s.data.toList.getD j 0 ≠ b)
  | 0, _ => by simp [splTo]
  | i + 1, hi => by
    obtain ⟨h1, h2, h3⟩ := splTo_cut s b i (by omega)
    have hl : i < s.data.toList.length := by have : s.data.toList.length = s.size := rfl; omega
    by_cases hb : s.data.toList.getD i 0 = b
    · rw [splTo, if_pos hb]
      refine ⟨?_, Nat.le_refl _, fun j h4 h5 => by omega⟩
      rw [h1, List.map_append, List.append_assoc]
      congr 1
      have e1 : s.data.toList.drop (splTo s b i).2 = (s.data.toList.drop (splTo s b i).2).take (i - (splTo s b i).2) ++ b :: s.data.toList.drop (i + 1) := by
        have e2 : (s.data.toList.drop (splTo s b i).2).drop (i - (splTo s b i).2) = b :: s.data.toList.drop (i + 1) := by
          rw [List.drop_drop, show (splTo s b i).2 + (i - (splTo s b i).2) = i by omega, List.drop_eq_getElem_cons hl]
          congr 1
          rw [← hb, getD_at hl]
        rw [← e2, List.take_append_drop]
      have e3 : ((s.extract (splTo s b i).2 i)).data.toList = (s.data.toList.drop (splTo s b i).2).take (i - (splTo s b i).2) := by
        rw [ByteArray.data_extract, Array.toList_extract]
      rw [e1, cutAt_app]
      · simp
      · intro hm
        obtain ⟨j, hj, e⟩ := List.mem_iff_getElem.1 hm
        rw [List.length_take] at hj
        refine h3 ((splTo s b i).2 + j) (by omega) (by omega) ?_
        rw [List.getElem_take, List.getElem_drop] at e
        exact (getD_at (by omega)).trans e
    · rw [splTo, if_neg hb]
      refine ⟨h1, by omega, fun j h4 h5 => ?_⟩
      by_cases hj : j = i
      · rw [hj]; exact hb
      · exact h3 j h4 (by omega)
theorem split_cut (s : ByteArray) (b : UInt8) : (split s b).map (·.data.toList) = cutAt b s.data.toList := by
  obtain ⟨h1, h2, h3⟩ := splTo_cut s b s.size (Nat.le_refl _)
  unfold split
  rw [h1, List.map_append]
  congr 1
  rw [cutAt_none]
  · have e3 : ((s.extract (splTo s b s.size).2 s.size)).data.toList = s.data.toList.drop (splTo s b s.size).2 := by
      rw [ByteArray.data_extract, Array.toList_extract]
      simp only [List.extract]
      rw [List.take_of_length_le]
      have : s.data.toList.length = s.size := rfl
      rw [List.length_drop]; omega
    rw [List.map_cons, List.map_nil, e3]
  · intro hm
    obtain ⟨j, hj, e⟩ := List.mem_iff_getElem.1 hm
    rw [List.length_drop] at hj
    have hl : s.data.toList.length = s.size := rfl
    refine h3 ((splTo s b s.size).2 + j) (by omega) (by omega) ?_
    rw [List.getElem_drop] at e
    exact (getD_at (by omega)).trans e
/-- The library's parts. -/
theorem libsplit_cut (b : UInt8) : ∀ (n : Nat) (l : List UInt8), l.length ≤ n → Lib.splitK [b] 0 (Lib.count l [b]) l = cutAt b l
  | 0, l, h => by
    have : l = [] := List.eq_nil_of_length_eq_zero (by omega)
    subst this
    rw [Lib.count_miss (by rw [Lib.index_one]; rfl)]; rfl
  | n + 1, l, h => by
    have hge := Lib.indexByte_ge l b
    rcases Int.lt_or_le (Lib.indexByte l b) 0 with hn | hp
    · have e : Lib.indexByte l b = -1 := by omega
      rw [Lib.count_miss (by rw [Lib.index_one]; exact e), cutAt_none]
      · rfl
      · intro hm
        obtain ⟨k, hk, e2⟩ := List.mem_iff_getElem.1 hm
        exact Lib.indexByte_none e k (by rw [List.getElem?_eq_getElem hk, e2])
    · obtain ⟨i, hi⟩ := Int.eq_ofNat_of_zero_le hp
      obtain ⟨h1, h2⟩ := Lib.indexByte_some hi
      have hi' : Lib.index l [b] = i := by rw [Lib.index_one]; exact hi
      rw [Lib.count_hit (by simp) hi', Nat.add_comm, Lib.splitK]
      have hm : ¬ (Lib.index l [b] == -1) = true := fun e => by have := beq_iff_eq.1 e; omega
      rw [if_neg hm, hi']
      obtain ⟨hlt, hb⟩ := List.getElem?_eq_some_iff.1 h1
      have e1 : l = l.take i ++ b :: l.drop (i + 1) := by
        rw [← hb, ← List.drop_eq_getElem_cons hlt, List.take_append_drop]
      have hnot : b ∉ l.take i := by
        intro hm2
        obtain ⟨k, hk, e2⟩ := List.mem_iff_getElem.1 hm2
        rw [List.length_take] at hk
        rw [List.getElem_take] at e2
        exact h2 k (by omega) (by rw [List.getElem?_eq_getElem (by omega), e2])
      have e2 : cutAt b l = l.take i :: cutAt b (l.drop (i + 1)) := by
        conv => lhs; rw [e1]
        exact cutAt_app _ hnot
      rw [e2]
      simp only [Int.toNat_natCast, Nat.add_zero, List.length_singleton]
      rw [libsplit_cut b n (l.drop (i + 1)) (by rw [List.length_drop]; omega)]
theorem splitB_cut (s : ByteArray) (b : UInt8) : Lib.splitB (S [b]) 0 (Lib.countB s (S [b])) s = (cutAt b s.data.toList).map S := by
  have h := Lib.splitB_data (S [b]) 0 (Lib.countB s (S [b])) s
  have e : (S [b]).data.toList = [b] := S_list [b]
  have h2 : Lib.countB s (S [b]) = Lib.count s.data.toList [b] := by unfold Lib.countB; rw [e]
  rw [h2, e, libsplit_cut b _ _ (Nat.le_refl _)] at h
  rw [h2, ← h, List.map_map]
  conv => lhs; rw [← List.map_id (Lib.splitB (S [b]) 0 (Lib.count s.data.toList [b]) s)]
  apply List.map_congr_left
  intro x _
  simp [S_data]
/-! ### numerals -/
theorem decDigits_digits (n : Nat) : Lib.decDigits n = digits n := by
  induction n using Nat.strongRecOn with
  | _ n ih =>
    by_cases h : n < 10
    · rw [Lib.decDigits, dif_pos h, digits_small h, Nat.mod_eq_of_lt h]
    · rw [Lib.decDigits, dif_neg h, digits_big (by omega), ih (n / 10) (by omega)]
theorem itoa_digits {n : Int} (h : 0 ≤ n) : Lib.itoa n = digits n.toNat := by
  unfold Lib.itoa
  rw [if_neg (by omega), decDigits_digits]
def numL (l : List UInt8) : Option Int := match Lib.atoiAll l with | .ok v => if Lib.itoa v = l then some v else none | _ => none
theorem numL_some {l : List UInt8} {n : Int} (h : numL l = some n) : Lib.itoa n = l := by
  unfold numL at h
  split at h
  · split at h
    · rename_i h2; injection h with h; rw [← h]; exact h2
    · cases h
  · cases h
def digOk (n : Nat) : Bool := (match Lib.atoiAll (digits n) with | .ok v => decide (v = n) | _ => false) && decide (numOf (S (digits n)) = n) && (digits n).all fun b => inB b.toNat 48 57
theorem digOk_all : (List.range 1000).all digOk = true := by decide +kernel
theorem digOk_at {n : Nat} (h : n < 1000) : Lib.atoiAll (digits n) = .ok (n : Int) ∧ numOf (S (digits n)) = n ∧ ∀ b ∈ digits n, 48 ≤ b.toNat ∧ b.toNat ≤ 57 := by
  have := List.all_eq_true.1 digOk_all n (List.mem_range.2 h)
  unfold digOk at this
  simp only [Bool.and_eq_true, decide_eq_true_eq, List.all_eq_true] at this
  obtain ⟨⟨h1, h2⟩, h3⟩ := this
  refine ⟨?_, h2, fun b hb => by have := inB_t.1 (h3 b hb); omega⟩
  split at h1
  · rename_i v hv; rw [hv]; simp at h1; rw [h1]
  · cases h1
theorem numL_digits {n : Nat} (h : n < 1000) : numL (digits n) = some (n : Int) := by
  unfold numL
  rw [(digOk_at h).1]
  have : Lib.itoa (n : Int) = digits n := by rw [itoa_digits (by omega)]; simp
  simp [this]
theorem numL_int {n : Int} (h0 : 0 ≤ n) (h : n < 1000) : numL (digits n.toNat) = some n := by
  rw [numL_digits (by omega)]; congr 1; omega
theorem numOf_int {n : Int} (h0 : 0 ≤ n) (h : n < 1000) : numOf (S (digits n.toNat)) = n := by
  rw [(digOk_at (show n.toNat < 1000 by omega)).2.1]; omega
theorem dig_no {n : Int} (h : n < 1000) {b : UInt8} (hb : b.toNat < 48) : b ∉ digits n.toNat := by
  intro hm
  have := (digOk_at (show n.toNat < 1000 by omega)).2.2 b hm
  omega
theorem name_no {s : ByteArray} (h : isName s = true) {b : UInt8} (hb : b.toNat < 48) : b ∉ s.data.toList := by
  intro hm
  unfold isName at h
  simp only [Bool.and_eq_true, List.all_eq_true] at h
  have := h.2 b hm
  unfold nameCh at this
  simp only [Bool.or_eq_true] at this
  rcases this with h3 | h3 <;> (have := inB_t.1 h3; omega)
/-! ### a sheet's text -/
def lineText (c : Code) (x : Line) : List UInt8 := digits x.no.toNat ++ [32] ++ nameAt c x.what ++ [32] ++ digits x.sum.toNat
theorem textOf_rows (c : Code) (s : Sheet) : textOf c s = (digits s.lines.toNat :: s.kept.map (lineText c)).flatMap fun q => q ++ [10] := by
  unfold textOf
  rw [List.flatMap_cons, List.flatMap_map]
  rfl
theorem nameAt_no {c : Code} (ho : c.Ok) {w : Int} (h0 : 0 ≤ w) (h1 : w < c.things) {b : UInt8} (hb : b.toNat < 48) : b ∉ nameAt c w := by
  unfold nameAt
  exact name_no (nameErr_name (ho.name w.toNat (by omega))) hb
theorem lineText_no {c : Code} {m : Int} {x : Line} (ho : c.Ok) (hm : m ≤ 12) (hx : LineOk c m x) {b : UInt8} (hb : b.toNat < 48) (h32 : b ≠ 32) : b ∉ lineText c x := by
  have h1 := dig_no (n := x.no) (by have := hx.no2; omega) hb
  have h2 := dig_no (n := x.sum) (by have := hx.sum2; omega) hb
  have h3 := nameAt_no ho hx.what1 (by have := hx.what2; omega) hb
  unfold lineText
  simp only [List.mem_append, List.mem_singleton]
  rintro ((((h | h) | h) | h) | h)
  · exact h1 h
  · exact h32 h
  · exact h3 h
  · exact h32 h
  · exact h2 h
theorem cut_text {c : Code} {s : Sheet} (ho : c.Ok) (hs : s.Ok c) : cutAt 10 (textOf c s) = (digits s.lines.toNat :: s.kept.map (lineText c)) ++ [[]] := by
  rw [textOf_rows]
  apply cutAt_flat
  intro p hp
  rcases List.mem_cons.1 hp with e | hp
  · rw [e]; exact dig_no (by have := hs.l2; omega) (by decide)
  · obtain ⟨x, hx, rfl⟩ := List.mem_map.1 hp
    exact lineText_no ho hs.l2 (hs.line x hx) (by decide) (by decide)
theorem cut_line {c : Code} {m : Int} {x : Line} (ho : c.Ok) (hm : m ≤ 12) (hx : LineOk c m x) : cutAt 32 (lineText c x) = [digits x.no.toNat, nameAt c x.what, digits x.sum.toNat] := by
  have h1 := dig_no (n := x.no) (b := 32) (by have := hx.no2; omega) (by decide)
  have h2 := dig_no (n := x.sum) (b := 32) (by have := hx.sum2; omega) (by decide)
  have h3 := nameAt_no ho hx.what1 (b := 32) (by have := hx.what2; omega) (by decide)
  unfold lineText
  rw [List.append_assoc, List.append_assoc, List.append_assoc, List.singleton_append, cutAt_app _ h1, List.singleton_append, cutAt_app _ h3, cutAt_none h2]
/-! ### names are found -/
theorem name_at {c : Code} {i : Nat} (hi : i < c.things) : c.names.getD i ByteArray.empty = c.names[i]'(by rw [Code.names_len]; exact hi) := by
  have : i < c.names.length := by rw [Code.names_len]; exact hi
  simp [List.getD, this]
theorem names_distinct {c : Code} (ho : c.Ok) {i j : Nat} (hi : i < j) (hj : j < c.things) : c.names.getD i ByteArray.empty ≠ c.names.getD j ByteArray.empty := by
  intro e
  have h := ho.name j hj
  have h1 := nameErr_name h
  have h2 : c.names.getD j ByteArray.empty ∈ c.names.take j := by
    rw [← e, name_at (by omega)]
    rw [List.mem_take_iff_getElem]
    exact ⟨i, by rw [Code.names_len]; omega, rfl⟩
  rw [nameErr_twice h1 h2] at h
  cases h
theorem idx_name {c : Code} (ho : c.Ok) {i : Nat} (hi : i < c.things) : idxP (fun x => decide (c.names.getD i ByteArray.empty = x)) c.names = i := by
  apply idxP_at (show i < c.names.length by rw [Code.names_len]; exact hi)
  · rw [← name_at hi]; simp
  · intro x hx
    obtain ⟨j, hj, rfl⟩ := List.mem_take_iff_getElem.1 hx
    have h := names_distinct ho (i := j) (j := i) (by omega) hi
    rw [name_at (by omega)] at h
    simp only [decide_eq_false_iff_not]
    exact fun e => h e.symm
theorem find_name {c : Code} (ho : c.Ok) {w : List ByteArray} {i : Nat} (hi : i < c.things) (hw : w.getD 1 ByteArray.empty = c.names.getD i ByteArray.empty) : ∀ k, i < k → k ≤ c.things → findTo c.names w k = ((i : Int), numOf (w.getD 2 ByteArray.empty))
  | 0, h, _ => by omega
  | k + 1, h, hk => by
    by_cases e : k = i
    · subst e; exact findTo_hit hw.symm
    · rw [findTo_miss, find_name ho hi hw k (by omega) (by omega)]
      rw [hw]
      exact fun e2 => names_distinct ho (i := i) (j := k) (by omega) (by omega) e2.symm
theorem idx_some {l : List ByteArray} {s : ByteArray} (h : 0 ≤ idxP (fun x => decide (s = x)) l) : l.getD (idxP (fun x => decide (s = x)) l).toNat ByteArray.empty = s := by
  unfold idxP at h ⊢
  cases hf : l.findIdx? (fun x => decide (s = x)) with
  | none => rw [hf] at h; simp at h
  | some i =>
    rw [List.findIdx?_eq_some_iff_getElem] at hf
    obtain ⟨hi, hp, _⟩ := hf
    simp at hp
    simp [List.getD, hi, hp]
/-! ### the program's reading -/
def lineL (c : Code) (l : List UInt8) : Option Line := match cutAt 32 l with
  | [a, n, z] => (numL a).bind fun x => (numL z).bind fun y => some ⟨x, idxP (fun s => decide (S n = s)) c.names, y⟩
  | _ => none
def linesL (c : Code) : List (List UInt8) → Option (List Line)
  | [] => some []
  | r :: rs => (lineL c r).bind fun x => (linesL c rs).bind fun xs => some (x :: xs)
def sheetL (c : Code) (l : List UInt8) : Option Sheet := if Lib.hasSuffix l [10] = true then match cutAt 10 (l.take (l.length - 1)) with
  | r :: rs => (numL r).bind fun n => (linesL c rs).bind fun xs => some ⟨n, xs⟩
  | [] => none
  else none
def preadAns (c : Code) (text : ByteArray) : Sheet × Int :=
  if readErr c text ≠ 0 then (⟨0, []⟩, readErr c text) else match sheetL c text.data.toList with
  | some s => if s.err c = 0 then (s, 0) else (⟨0, []⟩, 6)
  | none => (⟨0, []⟩, 6)
theorem lineL_text {c : Code} {m : Int} {x : Line} (ho : c.Ok) (hm : m ≤ 12) (hx : LineOk c m x) : lineL c (lineText c x) = some x := by
  unfold lineL
  rw [cut_line ho hm hx]
  simp only
  rw [numL_int (by have := hx.no1; omega) (by have := hx.no2; omega), numL_int hx.sum1 (by have := hx.sum2; omega)]
  simp only [Option.bind_some]
  congr 1
  have h1 := hx.what1; have h2 := hx.what2
  have : S (nameAt c x.what) = c.names.getD x.what.toNat ByteArray.empty := S_data _
  rw [this, idx_name ho (by omega)]
  apply Line.ext'
  refine ⟨rfl, ?_, rfl⟩
  simp only; omega
theorem linesL_text {c : Code} {m : Int} (ho : c.Ok) (hm : m ≤ 12) : ∀ {l : List Line}, (∀ x ∈ l, LineOk c m x) → linesL c (l.map (lineText c)) = some l
  | [], _ => rfl
  | x :: l, h => by
    rw [List.map_cons, linesL, lineL_text ho hm (h x (by simp)), linesL_text ho hm (l := l) (fun y hy => h y (by simp [hy]))]
    rfl
theorem sheetL_text {c : Code} {s : Sheet} (ho : c.Ok) (hs : s.Ok c) : sheetL c (textOf c s) = some s := by
  have hc := cut_text ho hs
  have h1 : textOf c s = glue 10 (digits s.lines.toNat :: s.kept.map (lineText c)) ++ [10] := by rw [glue_end, textOf_rows, List.flatMap_cons]
  unfold sheetL
  rw [h1, if_pos (by unfold Lib.hasSuffix; rw [List.isSuffixOf_iff_suffix]; exact List.suffix_append _ _)]
  have h2 : (glue 10 (digits s.lines.toNat :: s.kept.map (lineText c)) ++ [10]).take ((glue 10 (digits s.lines.toNat :: s.kept.map (lineText c)) ++ [10]).length - 1) = glue 10 (digits s.lines.toNat :: s.kept.map (lineText c)) := by
    simp
  have h3 : cutAt 10 (glue 10 (digits s.lines.toNat :: s.kept.map (lineText c))) = digits s.lines.toNat :: s.kept.map (lineText c) := by
    have e : ∀ (ps : List (List UInt8)) (p : List UInt8), (∀ q ∈ p :: ps, (10 : UInt8) ∉ q) → cutAt 10 (glue 10 (p :: ps)) = p :: ps := by
      intro ps
      induction ps with
      | nil => intro p h; exact cutAt_none (h p (by simp))
      | cons q ps ih => intro p h; rw [glue, cutAt_app _ (h p (by simp)), ih q (fun r hr => h r (by simp [hr]))]
    apply e
    intro p hp
    rcases List.mem_cons.1 hp with e | hp
    · rw [e]; exact dig_no (by have := hs.l2; omega) (by decide)
    · obtain ⟨x, hx, rfl⟩ := List.mem_map.1 hp
      exact lineText_no ho hs.l2 (hs.line x hx) (by decide) (by decide)
  rw [h2, h3]
  simp only
  rw [numL_int (by have := hs.l1; omega) (by have := hs.l2; omega), linesL_text ho hs.l2 hs.line]
  rfl
theorem lineL_some {c : Code} {m : Int} {l : List UInt8} {x : Line} (hx : LineOk c m x) (h : lineL c l = some x) : l = lineText c x := by
  unfold lineL at h
  split at h
  · rename_i a n z hc
    have hg := glue_cut 32 l
    rw [hc] at hg
    cases ha : numL a with
    | none => rw [ha] at h; cases h
    | some u =>
      cases hz : numL z with
      | none => rw [ha, hz] at h; cases h
      | some v =>
        rw [ha, hz] at h
        simp only [Option.bind_some] at h
        injection h with h
        have e1 : u = x.no := by rw [← h]
        have e2 : v = x.sum := by rw [← h]
        have e3 : idxP (fun s => decide (S n = s)) c.names = x.what := by rw [← h]
        have ea := numL_some ha; have ez := numL_some hz
        rw [e1, itoa_digits (by have := hx.no1; omega)] at ea
        rw [e2, itoa_digits hx.sum1] at ez
        have en : nameAt c x.what = n := by
          unfold nameAt
          rw [← e3, idx_some (by rw [e3]; exact hx.what1), S_list]
        unfold lineText
        rw [ea, ez, en, ← hg]
        simp [glue]
  · cases h
theorem linesL_some {c : Code} {m : Int} : ∀ {ls : List (List UInt8)} {xs : List Line}, (∀ x ∈ xs, LineOk c m x) → linesL c ls = some xs → ls = xs.map (lineText c)
  | [], xs, _, h => by rw [linesL] at h; injection h with h; rw [← h]; rfl
  | r :: rs, xs, hx, h => by
    rw [linesL] at h
    cases h1 : lineL c r with
    | none => rw [h1] at h; cases h
    | some x =>
      cases h2 : linesL c rs with
      | none => rw [h1, h2] at h; cases h
      | some ys =>
        rw [h1, h2] at h
        simp only [Option.bind_some] at h
        injection h with h
        subst h
        rw [List.map_cons, ← lineL_some (hx x (by simp)) h1, ← linesL_some (xs := ys) (fun y hy => hx y (by simp [hy])) h2]
theorem sheetL_some {c : Code} {l : List UInt8} {s : Sheet} (hs : s.Ok c) (h : sheetL c l = some s) : l = textOf c s := by
  unfold sheetL at h
  split at h
  · rename_i hsuf
    unfold Lib.hasSuffix at hsuf
    rw [List.isSuffixOf_iff_suffix] at hsuf
    obtain ⟨p, rfl⟩ := hsuf
    have e1 : (p ++ [10]).take ((p ++ [10]).length - 1) = p := by simp
    rw [e1] at h
    have hg := glue_cut 10 p
    split at h
    · rename_i r rs hc
      rw [hc] at hg
      cases h1 : numL r with
      | none => rw [h1] at h; cases h
      | some n =>
        cases h2 : linesL c rs with
        | none => rw [h1, h2] at h; cases h
        | some xs =>
          rw [h1, h2] at h
          simp only [Option.bind_some] at h
          injection h with h
          subst h
          have er := numL_some h1
          rw [itoa_digits (by have := hs.l1; simp only at this; omega)] at er
          have e2 := linesL_some hs.line h2
          simp only at e2
          rw [textOf_rows, List.flatMap_cons]
          simp only
          rw [er, ← e2, ← hg, glue_end]
    · cases h
  · cases h
/-! ### the reference's reading of a sheet's text -/
theorem parsed_text {c : Code} {s : Sheet} (ho : c.Ok) (hs : s.Ok c) : parsedOf c (S (textOf c s)) = s := by
  have hd := split_cut (S (textOf c s)) 10
  rw [S_list, cut_text ho hs] at hd
  have hrows : split (S (textOf c s)) 10 = (S (digits s.lines.toNat) :: s.kept.map fun x => S (lineText c x)) ++ [S []] := by
    have e : ((split (S (textOf c s)) 10).map (·.data.toList)).map S = split (S (textOf c s)) 10 := by
      rw [List.map_map]
      conv => rhs; rw [← List.map_id (split (S (textOf c s)) 10)]
      apply List.map_congr_left
      intro x _
      simp [S_data]
    rw [← e, hd]; simp
  unfold parsedOf rowsOf
  rw [hrows]
  have hn : numOf (S (digits s.lines.toNat)) = s.lines := numOf_int (by have := hs.l1; omega) (by have := hs.l2; omega)
  have hk : (((S (digits s.lines.toNat) :: s.kept.map fun x => S (lineText c x)) ++ [S []]).drop 1).take (((S (digits s.lines.toNat) :: s.kept.map fun x => S (lineText c x)) ++ [S []]).length - 2) = s.kept.map fun x => S (lineText c x) := by
    simp
  rw [hk]
  simp only [List.cons_append, List.getD_cons_zero, hn, List.map_map]
  have hl : s.kept.map (lineOf c ∘ fun x => S (lineText c x)) = s.kept := by
    conv => rhs; rw [← List.map_id s.kept]
    apply List.map_congr_left
    intro x hx
    have hx := hs.line x hx
    show lineOf c (S (lineText c x)) = x
    have hd2 := split_cut (S (lineText c x)) 32
    rw [S_list, cut_line ho hs.l2 hx] at hd2
    have hw : split (S (lineText c x)) 32 = [S (digits x.no.toNat), S (nameAt c x.what), S (digits x.sum.toNat)] := by
      have e : ((split (S (lineText c x)) 32).map (·.data.toList)).map S = split (S (lineText c x)) 32 := by
        rw [List.map_map]
        conv => rhs; rw [← List.map_id (split (S (lineText c x)) 32)]
        apply List.map_congr_left
        intro y _
        simp [S_data]
      rw [← e, hd2]; simp
    rw [lineOf_3 (by rw [hw]; rfl), hw]
    have h1 := hx.what1; have h2 := hx.what2
    rw [find_name ho (i := x.what.toNat) (by omega) (by simp [nameAt, S_data]) c.names.length (by rw [Code.names_len]; omega) (by rw [Code.names_len]; omega)]
    simp only [List.getD_cons_zero, List.getD_cons_succ]
    rw [numOf_int (by have := hx.no1; omega) (by have := hx.no2; have := hs.l2; omega), numOf_int hx.sum1 (by have := hx.sum2; omega)]
    apply Line.ext'
    refine ⟨rfl, ?_, rfl⟩
    simp only; omega
  rw [hl]
theorem readErr_ok {c : Code} {text : ByteArray} (h : readErr c text = 0) : c.Ok := by
  unfold readErr at h
  split at h
  · rename_i h1; exact absurd h h1
  · rename_i h1; exact Code.ok_of_check (by simpa using h1)
theorem pread_eq (c : Code) (text : ByteArray) : preadAns c text = readAns c text := by
  unfold preadAns readAns
  by_cases he : readErr c text ≠ 0
  · rw [if_pos he, if_pos he]
  · rw [if_neg he, if_neg he]
    have ho := readErr_ok (by simpa using he)
    have neg : (¬ ∃ s, sheetL c text.data.toList = some s ∧ s.err c = 0) → ¬ ((parsedOf c text).err c = 0 ∧ S (textOf c (parsedOf c text)) = text) := by
      rintro hn ⟨h1, h2⟩
      refine hn ⟨parsedOf c text, ?_, h1⟩
      have := sheetL_text ho (Sheet.ok_of_err h1)
      have e : textOf c (parsedOf c text) = text.data.toList := by
        have := congrArg (fun x => x.data.toList) h2
        simpa [S_list] using this
      rw [e] at this; exact this
    cases hl : sheetL c text.data.toList with
    | none =>
      simp only
      rw [if_neg (neg (by rintro ⟨s, h, _⟩; rw [hl] at h; cases h))]
    | some s =>
      simp only
      by_cases hs : s.err c = 0
      · have hok := Sheet.ok_of_err hs
        have ht := sheetL_some hok hl
        have hT : S (textOf c s) = text := by rw [← ht, S_data]
        have hp : parsedOf c text = s := by rw [← hT]; exact parsed_text ho hok
        rw [if_pos hs, hp, if_pos ⟨hs, hT⟩]
      · rw [if_neg hs, if_neg (neg (by rintro ⟨s', h, h2⟩; rw [hl] at h; injection h with h; subst h; exact hs h2))]
end Go.Bp
end
section
/- Plain Lean: what the fewest lost lines are. -/
namespace Go.Bp
open Go.RowKit
theorem mem_lost_iff {s : Sheet} {n : Int} : n ∈ s.lost ↔ (1 ≤ n ∧ n ≤ s.lines.toNat) ∧ ∀ x ∈ s.kept, x.no ≠ n := by
  unfold Sheet.lost
  rw [List.mem_filter, mem_numbers]
  simp
theorem fits_iff {c : Code} {s : Sheet} {t : List Int} : fits c s t = true ↔ (t.length : Int) = s.lines ∧ ∀ x ∈ s.kept, t.getD (x.no - 1).toNat 0 = x.what ∧ c.total (t.take x.no.toNat) = x.sum := by
  unfold fits lineFits
  simp [List.all_eq_true]
theorem tests_iff {c : Code} {s : Sheet} (hs : s.Ok c) {t : List Int} (ht : c.TestOk t) : t ∈ tests c s ↔ fits c s t = true := by
  constructor
  · exact fun h => (tests_mem hs h).2.2
  · intro h
    unfold tests
    rw [List.mem_filter]
    refine ⟨?_, h⟩
    have h2 := fits_iff.1 h
    have e : s.lines.toNat = t.length := by omega
    rw [e]
    have key : ∀ k, k ≤ t.length → t.take k ∈ prods c s.kept k := by
      intro k
      induction k with
      | zero => intro _; simp [prods]
      | succ k ih =>
        intro hk
        have hk' : k < t.length := by omega
        rw [prods_succ]
        unfold moreTo
        rw [List.take_length, List.mem_flatMap]
        refine ⟨_, ih (by omega), List.mem_map.2 ⟨t[k], ?_, (take_snoc t hk').symm⟩⟩
        rw [canTo_kept]
        cases hka : keptAt s.kept ((k : Int) + 1) with
        | none =>
          simp only
          have := ht.at hk'
          exact mem_allTo.2 ⟨this.1, by omega⟩
        | some x =>
          simp only
          obtain ⟨hx, hn⟩ := keptAt_some hka
          have := (h2.2 x hx).1
          have e3 : (x.no - 1).toNat = k := by omega
          rw [e3] at this
          have e4 : t.getD k 0 = t[k] := by simp [List.getD, hk']
          simp; omega
    have := key t.length (Nat.le_refl _)
    rwa [List.take_length] at this
theorem same_lost {c : Code} {s : Sheet} (hs : s.Ok c) {a b : List Int} (ha : a ∈ tests c s) (hb : b ∈ tests c s) (h : same a b s.lost = true) : a = b := by
  obtain ⟨h1, h2, h3⟩ := tests_mem hs ha
  obtain ⟨h4, h5, h6⟩ := tests_mem hs hb
  have f1 := (fits_iff.1 h3).2
  have f2 := (fits_iff.1 h6).2
  unfold same at h
  rw [List.all_eq_true] at h
  apply List.ext_getElem (by omega)
  intro i hi hi'
  have ea : a.getD i 0 = a[i] := by simp [List.getD, hi]
  have eb : b.getD i 0 = b[i] := by simp [List.getD, hi']
  by_cases hm : ((i : Int) + 1) ∈ s.lost
  · have := h _ hm
    unfold sameAt at this
    rw [decide_eq_true_eq] at this
    have e : ((i : Int) + 1 - 1).toNat = i := by omega
    rw [e] at this; omega
  · have : ∃ x ∈ s.kept, x.no = (i : Int) + 1 := by
      apply Classical.byContradiction
      intro hc
      exact hm (mem_lost_iff.2 ⟨⟨by omega, by omega⟩, fun x hx e => hc ⟨x, hx, e⟩⟩)
    obtain ⟨x, hx, hn⟩ := this
    have g1 := (f1 x hx).1
    have g2 := (f2 x hx).1
    have e : (x.no - 1).toNat = i := by omega
    rw [e] at g1 g2; omega
theorem enough_lost {c : Code} {s : Sheet} (hs : s.Ok c) : enough c (tests c s) s.lost = true := by
  rw [enough_iff]
  intro a ha b hb pa pb
  cases hq : same a b s.lost with
  | false => rfl
  | true =>
    have := same_lost hs ha hb hq
    subst this
    rw [pa] at pb; cases pb
theorem enough_mono {c : Code} {ts : List (List Int)} {l m : List Int} (hl : ∀ x ∈ l, x ∈ m) (h : enough c ts l = true) : enough c ts m = true := by
  rw [enough_iff] at h ⊢
  intro a ha b hb pa pb
  have := h a ha b hb pa pb
  cases hq : same a b m with
  | false => rfl
  | true =>
    exfalso
    unfold same at this hq
    rw [List.all_eq_true] at hq
    rw [List.all_eq_false] at this
    obtain ⟨x, hx, h2⟩ := this
    exact h2 (hq x (hl x hx))
theorem range_split {n a : Nat} {l r : List Nat} (h : List.range n = l ++ a :: r) : l = List.range a := by
  have ha : a = l.length := by
    have : (l ++ a :: r)[l.length]? = some a := by simp
    rw [← h, List.getElem?_range] at this
    · injection this with this; exact this.symm
    · have := congrArg List.length h; simp at this; omega
  apply List.ext_getElem
  · simp [ha]
  · intro i h1 h2
    have : (l ++ a :: r)[i]? = some l[i] := by rw [List.getElem?_append_left h1, List.getElem?_eq_getElem h1]
    rw [← h, List.getElem?_range] at this
    · injection this with this; rw [← this]; simp
    · have := congrArg List.length h; simp at this; omega
theorem fewestBy_inv {p : List Int → Bool} {ls l : List Int} (h : fewestBy p ls = some l) : ∃ m, m ≤ ls.length ∧ l ∈ combos m ls ∧ p l = true ∧ ∀ j, j < m → ∀ x ∈ combos j ls, p x = false := by
  unfold fewestBy at h
  rw [List.findSome?_eq_some_iff] at h
  obtain ⟨l1, m, l2, he, hf, hn⟩ := h
  have hl1 := range_split he
  have hm : m ∈ List.range (ls.length + 1) := by rw [he]; simp
  refine ⟨m, by have := List.mem_range.1 hm; omega, List.mem_of_find?_eq_some hf, List.find?_some hf, ?_⟩
  intro j hj x hx
  have := hn j (by rw [hl1]; exact List.mem_range.2 hj)
  rw [List.find?_eq_none] at this
  simpa using this x hx
theorem sublist_combos {x l : List Int} (h : x.Sublist l) : x ∈ combos x.length l := by
  induction h with
  | slnil => simp [combos]
  | @cons l1 l2 a h ih =>
    cases l1 with
    | nil => simp [combos]
    | cons b l1 => simp only [List.length_cons, combos, List.mem_append] at ih ⊢; exact .inr ih
  | @cons_cons l1 l2 a h ih => simp only [List.length_cons, combos, List.mem_append, List.mem_map]; exact .inl ⟨l1, ih, rfl⟩
theorem fewestBy_least {p : List Int → Bool} {ls l x : List Int} (h : fewestBy p ls = some l) (hx : x.Sublist ls) (hp : p x = true) : l.length ≤ x.length := by
  obtain ⟨m, _, h2, _, h4⟩ := fewestBy_inv h
  have := combos_mem_len ls m l h2
  rcases Nat.lt_or_ge x.length m with h5 | h5
  · have := h4 _ h5 x (sublist_combos hx); rw [hp] at this; cases this
  · omega
theorem fewestBy_any {p : List Int → Bool} {ls x : List Int} (hx : x.Sublist ls) (hp : p x = true) : ∃ l, fewestBy p ls = some l := by
  cases h : fewestBy p ls with
  | some l => exact ⟨l, rfl⟩
  | none =>
    unfold fewestBy at h
    rw [List.findSome?_eq_none_iff] at h
    have := h x.length (List.mem_range.2 (by have := hx.length_le; omega))
    rw [List.find?_eq_none] at this
    exact absurd hp (this x (sublist_combos hx))
theorem fewest_is {c : Code} {s : Sheet} (hs : s.Ok c) : ∃ l, fewestBy (enough c (tests c s)) s.lost = some l ∧ fewestOf c s = l := by
  obtain ⟨l, hl⟩ := fewestBy_any (p := enough c (tests c s)) (List.Sublist.refl s.lost) (enough_lost hs)
  exact ⟨l, hl, by unfold fewestOf; rw [hl]; rfl⟩
theorem risingFrom_sorted {p : Int → Bool} : ∀ {l : List Int} {prev : Option Int}, (∀ x ∈ l, p x = true) → l.Pairwise (· < ·) → (∀ y, prev = some y → ∀ x ∈ l, y < x) → risingFrom p prev l = 0
  | [], _, _, _, _ => rfl
  | x :: l, prev, hp, hs, hy => by
    unfold risingFrom
    rw [if_neg (by rw [hp x (by simp)]; simp), if_neg]
    · rw [List.pairwise_cons] at hs
      exact risingFrom_sorted (fun y hy => hp y (by simp [hy])) hs.2 (fun y e z hz => by injection e with e; subst e; exact hs.1 z hz)
    · cases prev with
      | none => simp
      | some y => have := hy y rfl x (by simp); simp; omega
theorem rising_sorted {p : Int → Bool} {l : List Int} (hp : ∀ x ∈ l, p x = true) (hs : l.Pairwise (· < ·)) : rising p l = 0 := risingFrom_sorted hp hs (fun _ e => by cases e)
theorem numbers_sorted (m : Nat) : (numbers m).Pairwise (· < ·) := by
  unfold numbers
  rw [List.pairwise_map]
  exact List.pairwise_lt_range.imp (fun h => by omega)
theorem lost_sorted (s : Sheet) : s.lost.Pairwise (· < ·) := (numbers_sorted _).sublist List.filter_sublist
theorem enoughErr_sub {c : Code} {s : Sheet} {ls : List Int} (h : fittingErr c s = 0) (hs : ls.Sublist s.lost) : enoughErr c s ls = 0 := by
  unfold enoughErr
  rw [if_neg (by simp [h])]
  exact rising_sorted (fun x hx => by simpa [hasB] using hs.subset hx) ((lost_sorted s).sublist hs)
theorem enoughAns_sub {c : Code} {s : Sheet} {ls : List Int} (h : fittingErr c s = 0) (hs : ls.Sublist s.lost) : enoughAns c s ls = (enough c (tests c s) ls, 0) := by
  unfold enoughAns; rw [if_neg (by simp [enoughErr_sub h hs])]
theorem fewestOf_sub {c : Code} {s : Sheet} (hs : s.Ok c) : (fewestOf c s).Sublist s.lost ∧ enough c (tests c s) (fewestOf c s) = true ∧ ∀ x : List Int, x.Sublist s.lost → enough c (tests c s) x = true → (fewestOf c s).length ≤ x.length := by
  obtain ⟨l, h1, h2⟩ := fewest_is hs
  obtain ⟨m, _, h4, h5, _⟩ := fewestBy_inv h1
  rw [h2]
  exact ⟨combos_sublist _ _ l h4, h5, fun x hx hp => fewestBy_least h1 hx hp⟩
end Go.Bp
end
section
/- Plain Lean: the sheet that is left of a whole test. -/
namespace Go.Bp
open Go.RowKit
def keptLine (c : Code) (t : List Int) (i : Nat) : Line := ⟨(i : Int) + 1, t.getD i 0, c.total (t.take (i + 1))⟩
theorem keptTo_map (c : Code) (t lost : List Int) : ∀ k, keptTo c t lost k = ((List.range k).filter fun i : Nat => !(hasB lost ((i : Int) + 1))).map (keptLine c t)
  | 0 => rfl
  | k + 1 => by
    rw [keptTo, keptTo_map c t lost k, List.range_succ, List.filter_append, List.map_append]
    by_cases h : hasB lost ((k : Int) + 1) = true <;> simp [h, keptLine]
theorem mem_kept {c : Code} {t lost : List Int} {k : Nat} {x : Line} : x ∈ keptTo c t lost k ↔ ∃ i, i < k ∧ ((i : Int) + 1) ∉ lost ∧ x = keptLine c t i := by
  rw [keptTo_map, List.mem_map]
  constructor
  · rintro ⟨i, hi, rfl⟩
    rw [List.mem_filter, List.mem_range] at hi
    exact ⟨i, hi.1, by simpa [hasB] using hi.2, rfl⟩
  · rintro ⟨i, h1, h2, rfl⟩
    exact ⟨i, List.mem_filter.2 ⟨List.mem_range.2 h1, by simpa [hasB] using h2⟩, rfl⟩
theorem filter_sub {l L : List Int} (h : l.Sublist L) (hn : L.Nodup) : L.filter (hasB l) = l := by
  induction h with
  | slnil => rfl
  | @cons l1 l2 a h ih =>
    rw [List.nodup_cons] at hn
    have : hasB l1 a = false := by simpa [hasB] using fun e => hn.1 (h.subset e)
    rw [List.filter_cons_of_neg (by simp [this]), ih hn.2]
  | @cons_cons l1 l2 a h ih =>
    rw [List.nodup_cons] at hn
    rw [List.filter_cons_of_pos (by simp [hasB])]
    congr 1
    have : ∀ x ∈ l2, hasB (a :: l1) x = hasB l1 x := by
      intro x hx
      have : x ≠ a := fun e => hn.1 (e ▸ hx)
      simp [hasB, this]
    rw [List.filter_congr this]
    exact ih hn.2
theorem filter_not_len {α : Type} (p : α → Bool) : ∀ l : List α, (l.filter fun x => !(p x)).length + (l.filter p).length = l.length
  | [] => rfl
  | x :: l => by
    have := filter_not_len p l
    by_cases h : p x = true <;> simp [h] <;> omega
theorem kept_len {c : Code} {t lost : List Int} (h : lost.Sublist (numbers t.length)) : (keptTo c t lost t.length).length + lost.length = t.length := by
  rw [keptTo_map, List.length_map]
  have h1 := filter_not_len (fun i : Nat => hasB lost ((i : Int) + 1)) (List.range t.length)
  have h2 : ((List.range t.length).filter fun i : Nat => hasB lost ((i : Int) + 1)).length = ((numbers t.length).filter (hasB lost)).length := by
    unfold numbers
    rw [List.filter_map, List.length_map]
    congr 1
  rw [h2, filter_sub h (numbers_nodup _)] at h1
  simpa using h1
theorem linesErr_ok {c : Code} {m : Int} : ∀ {l : List Line} {prev : Option Int}, (∀ x ∈ l, LineOk c m x) → Rises prev l → c.linesErr m prev l = 0
  | [], _, _, _ => by unfold Code.linesErr; rfl
  | x :: l, prev, h, hr => by
    obtain ⟨h1, h2⟩ := hr
    have hx := h x (by simp)
    have e : c.lineErr m prev x = 0 := Code.lineErr_ok (inB_t.2 ⟨hx.no1, hx.no2⟩) h1 (inB_t.2 ⟨hx.what1, by have := hx.what2; omega⟩) (inB_t.2 ⟨hx.sum1, hx.sum2⟩)
    unfold Code.linesErr
    rw [if_neg (by simp [e])]
    exact linesErr_ok (fun y hy => h y (by simp [hy])) h2
theorem rises_of : ∀ {l : List Line} {prev : Option Int}, l.Pairwise (fun x y => x.no < y.no) → (∀ y, prev = some y → ∀ x ∈ l, y < x.no) → Rises prev l
  | [], _, _, _ => trivial
  | x :: l, prev, h, hp => by
    rw [List.pairwise_cons] at h
    refine ⟨?_, rises_of h.2 (fun y e z hz => by injection e with e; subst e; exact h.1 z hz)⟩
    cases prev with
    | none => rfl
    | some y => have := hp y rfl x (by simp); simp; omega
theorem err_of_ok {c : Code} {s : Sheet} (h1 : inB s.lines 1 12 = true) (h2 : ∀ x ∈ s.kept, LineOk c s.lines x) (h3 : Rises none s.kept) (h4 : s.lost.length ≤ 3) : s.err c = 0 := Sheet.err_ok h1 (linesErr_ok h2 h3) h4
theorem lost_kept {c : Code} {t lost : List Int} (h : lost.Sublist (numbers t.length)) : Sheet.lost ⟨t.length, keptTo c t lost t.length⟩ = lost := by
  unfold Sheet.lost
  simp only [Int.toNat_natCast]
  conv => rhs; rw [← filter_sub h (numbers_nodup _)]
  apply List.filter_congr
  intro n hn
  obtain ⟨h1, h2⟩ := mem_numbers.1 hn
  by_cases hl : n ∈ lost
  · have : ((keptTo c t lost t.length).any fun x => decide (x.no = n)) = false := by
      rw [List.any_eq_false]
      intro x hx
      obtain ⟨i, h3, h4, rfl⟩ := mem_kept.1 hx
      intro hc
      have e := of_decide_eq_true hc
      simp only [keptLine] at e
      exact h4 (e ▸ hl)
    simp [this, hasB, hl]
  · have : ((keptTo c t lost t.length).any fun x => decide (x.no = n)) = true := by
      rw [List.any_eq_true]
      refine ⟨keptLine c t (n - 1).toNat, mem_kept.2 ⟨(n - 1).toNat, by omega, ?_, rfl⟩, ?_⟩
      · have e : (((n - 1).toNat : Nat) : Int) + 1 = n := by omega
        rw [e]; exact hl
      · exact decide_eq_true (show (((n - 1).toNat : Nat) : Int) + 1 = n by omega)
    simp [this, hasB, hl]
/-- A whole test of which some lines are lost. -/
structure Drove (c : Code) (t lost : List Int) : Prop where
  ok : c.Ok
  test : c.TestOk t
  one : 1 ≤ t.length
  sub : lost.Sublist (numbers t.length)
  few : lost.length ≤ 3
def leftOf (c : Code) (t lost : List Int) : Sheet := ⟨t.length, keptTo c t lost t.length⟩
section
variable {c : Code} {t lost : List Int}
theorem Drove.whole (h : Drove c t lost) : c.whole t = 0 := by
  have := Code.check_of_ok h.ok
  refine Code.whole_0 (by rw [this]) (inB_t.2 ⟨by have := h.one; omega, by have := h.test.1; omega⟩) fun x hx => inB_t.2 ?_
  have := h.test.2 x hx; omega
theorem Drove.keepErr (h : Drove c t lost) : keepErr c t lost = 0 := by
  unfold Bp.keepErr
  rw [if_neg (by simp [h.whole])]
  have : rising (hasB (numbers t.length)) lost = 0 := rising_sorted (fun x hx => by simpa [hasB] using h.sub.subset hx) ((numbers_sorted _).sublist h.sub)
  rw [if_neg (by simp [this]), if_pos h.few]
theorem Drove.keep (h : Drove c t lost) : keepAns c t lost = (leftOf c t lost, 0) := by
  unfold keepAns; rw [if_neg (by simp [h.keepErr])]; rfl
theorem Drove.line (h : Drove c t lost) : ∀ x ∈ (leftOf c t lost).kept, LineOk c (leftOf c t lost).lines x := by
  intro x hx
  obtain ⟨i, h1, h2, rfl⟩ := mem_kept.1 hx
  have hg : t.getD i 0 = t[i] := by simp [List.getD, h1]
  have ht := h.test.at h1
  have hb := h.ok.total_le (t.take (i + 1))
  have hl := h.test.1
  rw [List.length_take] at hb
  have hll : (leftOf c t lost).lines = t.length := rfl
  exact ⟨by simp only [keptLine]; omega, by simp only [keptLine]; omega, by simp only [keptLine]; omega, by simp only [keptLine]; omega, by simp only [keptLine]; omega, by simp only [keptLine]; omega⟩
theorem Drove.rises (_h : Drove c t lost) : Rises none (leftOf c t lost).kept := by
  apply rises_of
  · show (keptTo c t lost t.length).Pairwise _
    rw [keptTo_map, List.pairwise_map]
    refine (List.pairwise_lt_range.sublist List.filter_sublist).imp fun hab => ?_
    simp only [keptLine]; omega
  · intro y e; cases e
theorem Drove.err (h : Drove c t lost) : (leftOf c t lost).err c = 0 := by
  refine err_of_ok ?_ h.line h.rises ?_
  · have := h.test.1; have := h.one
    exact inB_t.2 ⟨by show (1 : Int) ≤ (t.length : Int); omega, by show (t.length : Int) ≤ 12; omega⟩
  · have e : (leftOf c t lost).lost = lost := lost_kept h.sub
    rw [e]; exact h.few
theorem Drove.sOk (h : Drove c t lost) : (leftOf c t lost).Ok c := Sheet.ok_of_err h.err
theorem Drove.fit (_h : Drove c t lost) : fits c (leftOf c t lost) t = true := by
  rw [fits_iff]
  refine ⟨rfl, fun x hx => ?_⟩
  obtain ⟨i, h1, h2, rfl⟩ := mem_kept.1 hx
  have e1 : ((keptLine c t i).no - 1).toNat = i := by simp only [keptLine]; omega
  have e2 : (keptLine c t i).no.toNat = i + 1 := by simp only [keptLine]; omega
  rw [e1, e2]; exact ⟨rfl, rfl⟩
theorem Drove.mem (h : Drove c t lost) : t ∈ tests c (leftOf c t lost) := (tests_iff h.sOk h.test).2 h.fit
theorem Drove.asked (h : Drove c t lost) : (leftOf c t lost).asked c = 0 := by
  have := Code.check_of_ok h.ok
  rw [Sheet.asked_s (by rw [this])]; exact h.err
theorem Drove.fitting (h : Drove c t lost) : fittingErr c (leftOf c t lost) = 0 :=
  fitting_0 h.asked (fun e => by have := h.mem; rw [e] at this; cases this)
theorem Drove.judge (h : Drove c t lost) : c.judge t = (c.total t, c.passed t, 0) := by
  unfold Code.judge; rw [if_neg (by simp [h.whole])]
theorem Drove.only (h : Drove c t lost) (h0 : lost = []) : (tests c (leftOf c t lost)).length = 1 := by
  subst h0
  have hl : (leftOf c t []).lost = [] := lost_kept h.sub
  have hall : ∀ a ∈ tests c (leftOf c t []), a = t := by
    intro a ha
    exact same_lost h.sOk ha h.mem (by rw [hl]; rfl)
  have hlen := prods_len h.ok (leftOf c t []).kept (leftOf c t []).lines.toNat
  have e : lostTo (leftOf c t []).kept (leftOf c t []).lines.toNat = [] := hl
  rw [e] at hlen
  have h1 : (tests c (leftOf c t [])).length ≤ 1 := by
    unfold tests
    have := List.length_filter_le (fits c (leftOf c t [])) (prods c (leftOf c t []).kept (leftOf c t []).lines.toNat)
    simp at hlen
    omega
  have h2 : 1 ≤ (tests c (leftOf c t [])).length := List.length_pos_of_mem h.mem
  omega
end
/-- What an outcome says of a test that fits. -/
theorem outcome_says {c : Code} {s : Sheet} {t : List Int} (ht : t ∈ tests c s) : (outcomeOf c s = 1 → c.passed t = true) ∧ (outcomeOf c s = 0 → c.passed t = false) ∧ (outcomeOf c s = 0 ∨ outcomeOf c s = 1 ∨ outcomeOf c s = 2) := by
  unfold outcomeOf
  by_cases h1 : (tests c s).all c.passed = true
  · rw [if_pos h1]
    exact ⟨fun _ => List.all_eq_true.1 h1 t ht, fun h => by omega, by omega⟩
  · rw [if_neg h1]
    by_cases h2 : (tests c s).any c.passed = true
    · rw [if_pos h2]; exact ⟨fun h => by omega, fun h => by omega, by omega⟩
    · rw [if_neg h2]
      refine ⟨fun h => by omega, fun _ => ?_, by omega⟩
      simp only [List.any_eq_true, not_exists, not_and, Bool.not_eq_true] at h2
      exact h2 t ht
end Go.Bp
end
section
/- Plain Lean: the laws of what is shown, milder codes, struck lines, further lost lines. -/
namespace Go.Bp
open Go.RowKit
/-! ### shown -/
theorem asked_cases (c : Code) (s : Sheet) : s.asked c ≠ 9 := by
  unfold Sheet.asked
  rcases Code.check_err_cases c with h | h | h | h | h
  · rw [if_neg (by simp [h])]
    unfold Sheet.err
    have hl : ∀ (l : List Line) (prev : Option Int), c.linesErr s.lines prev l ≠ 9 := by
      intro l
      induction l with
      | nil => intro prev; unfold Code.linesErr; decide
      | cons x l ih =>
        intro prev
        unfold Code.linesErr
        split
        · unfold Code.lineErr
          split
          · decide
          · split
            · decide
            · split
              · decide
              · split <;> decide
        · exact ih _
    split
    · decide
    · split
      · exact hl _ _
      · split <;> decide
  all_goals (rw [if_pos (by simp [h]), h]; decide)
theorem fitting_cases {c : Code} {s : Sheet} : (fittingErr c s = 9 ↔ (s.asked c = 0 ∧ tests c s = [])) ∧ (fittingErr c s = 0 → s.asked c = 0 ∧ tests c s ≠ []) := by
  have h9 := asked_cases c s
  unfold fittingErr
  by_cases h : s.asked c = 0
  · rw [if_neg (by simp [h])]
    by_cases h2 : tests c s = []
    · rw [if_pos h2]; simp [h, h2]
    · rw [if_neg h2]; simp [h, h2]
  · rw [if_pos h]
    exact ⟨⟨fun e => absurd e h9, fun e => absurd e.1 h⟩, fun e => absurd e h⟩
theorem show_cases {c : Code} {s : Sheet} (b : Bool) (h : fittingErr c s = 0) : (∃ t, showAns c s b = (t, 0) ∧ t ∈ tests c s ∧ c.passed t = b) ∨ (showAns c s b = ([], 4) ∧ ∀ t ∈ tests c s, c.passed t ≠ b) := by
  unfold showAns
  rw [if_neg (by simp [h])]
  cases hs : showOf c s b with
  | some t =>
    left
    unfold showOf at hs
    exact ⟨t, rfl, List.mem_of_find?_eq_some hs, by simpa using List.find?_some hs⟩
  | none =>
    right
    unfold showOf at hs
    rw [List.find?_eq_none] at hs
    exact ⟨rfl, fun t ht => by simpa using hs t ht⟩
theorem outcome_some {c : Code} {s : Sheet} (hn : tests c s ≠ []) : ((∃ t ∈ tests c s, c.passed t = true) ↔ outcomeOf c s ≠ 0) ∧ ((∃ t ∈ tests c s, c.passed t = false) ↔ outcomeOf c s ≠ 1) := by
  unfold outcomeOf
  obtain ⟨t0, ht0⟩ := List.exists_mem_of_ne_nil _ hn
  by_cases h1 : (tests c s).all c.passed = true
  · rw [if_pos h1]
    have h1' := List.all_eq_true.1 h1
    refine ⟨⟨fun _ => by decide, fun _ => ⟨t0, ht0, h1' t0 ht0⟩⟩, ⟨fun ⟨t, ht, hp⟩ => (by rw [h1' t ht] at hp; cases hp), fun h => absurd rfl h⟩⟩
  · rw [if_neg h1]
    have h1' : ∃ t ∈ tests c s, c.passed t = false := by simpa [List.all_eq_true] using h1
    by_cases h2 : (tests c s).any c.passed = true
    · rw [if_pos h2]
      have h2' := List.any_eq_true.1 h2
      exact ⟨⟨fun _ => by decide, fun _ => h2'⟩, ⟨fun _ => by decide, fun _ => h1'⟩⟩
    · rw [if_neg h2]
      refine ⟨⟨fun ⟨t, ht, hp⟩ => absurd (List.any_eq_true.2 ⟨t, ht, hp⟩) h2, fun h => absurd rfl h⟩, ⟨fun _ => by decide, fun _ => h1'⟩⟩
theorem test_whole {c : Code} {s : Sheet} (ho : c.Ok) (hs : s.Ok c) {t : List Int} (ht : t ∈ tests c s) : c.whole t = 0 ∧ c.judge t = (c.total t, c.passed t, 0) := by
  obtain ⟨h1, h2, _⟩ := tests_mem hs ht
  have hc := Code.check_of_ok ho
  have hw : c.whole t = 0 := by
    refine Code.whole_0 (by rw [hc]) (inB_t.2 ⟨by have := hs.l1; omega, by have := h1.1; omega⟩) fun x hx => inB_t.2 ?_
    have := h1.2 x hx; omega
  exact ⟨hw, by unfold Code.judge; rw [if_neg (by simp [hw])]⟩
/-! ### milder -/
structure Milder (c d : Code) : Prop where
  man : d.man = c.man
  len : d.faults.length = c.faults.length
  name : ∀ i (h : i < c.faults.length) (h' : i < d.faults.length), d.faults[i].name = c.faults[i].name ∧ d.faults[i].points = c.faults[i].points ∧ c.faults[i].limit ≤ d.faults[i].limit ∧ d.faults[i].limit ≤ 12
  all1 : c.all ≤ d.all
  all2 : d.all ≤ 240
section
variable {c d : Code}
theorem Milder.names (h : Milder c d) : d.names = c.names := by
  unfold Code.names
  rw [h.man]
  congr 1
  apply List.ext_getElem (by simp [h.len])
  intro i h1 h2
  simp only [List.getElem_map]
  exact (h.name i (by simpa using h2) (by simpa using h1)).1
theorem Milder.things (h : Milder c d) : d.things = c.things := by unfold Code.things; rw [h.man, h.len]
theorem Milder.ok (h : Milder c d) (ho : c.Ok) : d.Ok := by
  refine ⟨by rw [h.len]; exact ho.nf1, by rw [h.len]; exact ho.nf2, by rw [h.man]; exact ho.nm, ?_, ?_, by have := h.all1; have := ho.all0; omega, h.all2, ?_⟩
  · intro i hi
    have := ho.pts i (by rw [← h.len]; exact hi)
    rw [(h.name i (by rw [← h.len]; exact hi) hi).2.1]; exact this
  · intro i hi
    have h1 := ho.lim i (by rw [← h.len]; exact hi)
    have h2 := (h.name i (by rw [← h.len]; exact hi) hi).2.2
    omega
  · intro i hi
    rw [h.names]; exact ho.name i (by rw [← h.things]; exact hi)
theorem Milder.pts (h : Milder c d) (w : Int) : d.pts w = c.pts w := by
  unfold Code.pts
  rw [h.len]
  split
  · cases hw : c.faults[w.toNat]? with
    | none =>
      have : d.faults[w.toNat]? = none := by rw [List.getElem?_eq_none_iff] at hw ⊢; rw [h.len]; exact hw
      rw [this]
    | some f =>
      obtain ⟨hi, rfl⟩ := List.getElem?_eq_some_iff.1 hw
      have hi' : w.toNat < d.faults.length := by rw [h.len]; exact hi
      rw [List.getElem?_eq_getElem hi']
      simp [(h.name _ hi hi').2.1]
  · rfl
theorem Milder.total (h : Milder c d) (l : List Int) : d.total l = c.total l := by
  unfold Code.total
  congr 1
  exact List.map_congr_left fun w _ => h.pts w
theorem Milder.passed (h : Milder c d) {l : List Int} (hp : c.passed l = true) : d.passed l = true := by
  unfold Code.passed at hp ⊢
  simp only [Bool.and_eq_true, List.all_eq_true, List.mem_range, decide_eq_true_eq] at hp ⊢
  refine ⟨fun i hi => ?_, by rw [h.total]; have := h.all1; omega⟩
  have hf := hp.1 i (by rw [← h.things]; exact hi)
  unfold Code.fine at hf ⊢
  rw [h.len]
  split
  · rename_i hi2
    rw [if_pos hi2] at hf
    have hi' : i < d.faults.length := by rw [h.len]; exact hi2
    have h3 := (h.name i hi2 hi').2.2.1
    have e1 : c.limitAt i = c.faults[i].limit := by simp [Code.limitAt, hi2]
    have e2 : d.limitAt i = d.faults[i].limit := by simp [Code.limitAt, hi']
    have h4 := of_decide_eq_true hf
    exact decide_eq_true (by omega)
  · rename_i hi2
    rw [if_neg hi2] at hf; exact hf
theorem cnt_of_all {l : List Int} {i : Nat} : Code.cnt l i ≤ l.length := Code.cnt_le l i
/-- A fault struck. -/
theorem struck_passed {c : Code} (ho : c.Ok) {t : List Int} (ht : c.TestOk t) {k : Nat} (hk : k < t.length) (hf : t[k] < (c.faults.length : Int)) (hp : c.passed t = true) : c.passed (without c t [(k : Int) + 1]).1 = true := by
  have hle : (without c t [(k : Int) + 1]).1 = leftTo c t [(k : Int) + 1] t.length := rfl
  have hcnt : ∀ i, Code.cnt t i = Code.cnt (without c t [(k : Int) + 1]).1 i + if t[k] = (i : Int) then 1 else 0 := by
    intro i
    have h := cnt_left c t [] (n := k + 1) (by omega) (by simp) i t.length
    have e0 : leftTo c t [] t.length = t := left_none c t
    rw [e0, List.nil_append] at h
    rw [hle, h]
    have e1 : t.getD (k + 1 - 1) 0 = t[k] := by simp [List.getD, hk]
    rw [e1]
    congr 1
    by_cases e : t[k] = (i : Int)
    · rw [if_pos ⟨by omega, e⟩, if_pos e]
    · rw [if_neg (fun h => e h.2), if_neg e]
  have hnn : ∀ x ∈ t, 0 ≤ x := fun x hx => (ht.2 x hx).1
  have hnn2 : ∀ x ∈ (without c t [(k : Int) + 1]).1, 0 ≤ x := fun x hx => ((left_ok ht).2 x hx).1
  have hpts : ∀ n, c.ptsTo (without c t [(k : Int) + 1]).1 n ≤ c.ptsTo t n := by
    intro n
    induction n with
    | zero => simp [Code.ptsTo]
    | succ n ih =>
      unfold Code.ptsTo
      have h1 := (ho.pointsAt_le n).1
      have h2 : (Code.cnt (without c t [(k : Int) + 1]).1 n : Int) ≤ (Code.cnt t n : Int) := by have := hcnt n; omega
      have := Int.mul_le_mul_of_nonneg_right h2 h1
      omega
  unfold Code.passed at hp ⊢
  simp only [Bool.and_eq_true, List.all_eq_true, List.mem_range, decide_eq_true_eq] at hp ⊢
  refine ⟨fun i hi => ?_, ?_⟩
  · have hf2 := hp.1 i hi
    unfold Code.fine at hf2 ⊢
    have hc := hcnt i
    split
    · rename_i hi2
      rw [if_pos hi2] at hf2
      simp only [decide_eq_true_eq] at hf2 ⊢
      omega
    · rename_i hi2
      rw [if_neg hi2] at hf2
      have hne : t[k] ≠ (i : Int) := by omega
      rw [if_neg hne] at hc
      simp only [bne_iff_ne, ne_eq] at hf2 ⊢
      omega
  · have h1 := hp.2
    rw [Code.total_eq c t hnn] at h1
    rw [Code.total_eq c _ hnn2]
    have := hpts c.faults.length
    omega
theorem left_len {c : Code} {t : List Int} {k : Nat} (hk : k < t.length) : (without c t [(k : Int) + 1]).1.length + 1 = t.length := by
  show (leftTo c t [(k : Int) + 1] t.length).length + 1 = t.length
  unfold leftTo
  rw [List.length_map]
  have h1 := filter_not_len (fun i : Nat => hasB [(k : Int) + 1] ((i : Int) + 1)) (List.range t.length)
  have h2 : ((List.range t.length).filter fun i : Nat => hasB [(k : Int) + 1] ((i : Int) + 1)).length = ((numbers t.length).filter (hasB [(k : Int) + 1])).length := by
    unfold numbers
    rw [List.filter_map, List.length_map]
    congr 1
  have h3 : [(k : Int) + 1].Sublist (numbers t.length) := by
    rw [List.singleton_sublist]; exact mem_numbers.2 (by omega)
  rw [h2, filter_sub h3 (numbers_nodup _)] at h1
  simpa using h1
end
/-! ### appeal -/
theorem helps_nil (c : Code) (t : List Int) : helps c t [] = c.passed t := by
  unfold helps
  rw [left_none, faults_all (by simp)]
  simp
theorem fewestBy_nil {p : List Int → Bool} {ls : List Int} : fewestBy p ls = some [] ↔ p [] = true := by
  constructor
  · intro h; obtain ⟨m, _, _, h3, _⟩ := fewestBy_inv h; exact h3
  · intro h
    exact fewestBy_some (m := 0) (Nat.zero_le _) (fun j hj => by omega) (by simp [combos, h])
theorem appeal_cases {c : Code} {t : List Int} (hw : c.whole t = 0) : (∃ l, fewestBy (helps c t) (numbers t.length) = some l ∧ appealAns c t = (l, 0) ∧ l.Sublist (numbers t.length) ∧ helps c t l = true) ∨ (fewestBy (helps c t) (numbers t.length) = none ∧ appealAns c t = ([], 9)) := by
  unfold appealAns
  rw [if_neg (by simp [hw])]
  cases h : fewestBy (helps c t) (numbers t.length) with
  | none => right; exact ⟨rfl, rfl⟩
  | some l =>
    left
    obtain ⟨m, _, h2, h3, _⟩ := fewestBy_inv h
    exact ⟨l, rfl, rfl, combos_sublist _ _ l h2, h3⟩
/-! ### a further line lost -/
theorem nodup_sub_len {α : Type} [DecidableEq α] : ∀ {a b : List α}, a.Nodup → (∀ x ∈ a, x ∈ b) → a.length ≤ b.length
  | [], _, _, _ => Nat.zero_le _
  | x :: a, b, hn, hs => by
    rw [List.nodup_cons] at hn
    have hx := hs x (by simp)
    have h1 : ∀ y ∈ a, y ∈ b.erase x := by
      intro y hy
      have hne : y ≠ x := fun e => hn.1 (e ▸ hy)
      exact (List.mem_erase_of_ne hne).2 (hs y (by simp [hy]))
    have h2 := nodup_sub_len hn.2 h1
    rw [List.length_erase_of_mem hx] at h2
    have := List.length_pos_of_mem hx
    simp only [List.length_cons]; omega
theorem allTo_nodup : ∀ k, (allTo k).Nodup
  | 0 => by simp [allTo]
  | k + 1 => by
    rw [allTo_succ, List.nodup_append]
    refine ⟨allTo_nodup k, by simp, ?_⟩
    intro a ha b hb e
    simp at hb; subst hb; subst e
    have := (mem_allTo.1 ha).2; omega
theorem canTo_nodup (c : Code) (l : List Line) (n : Int) : (canTo c l n).Nodup := by
  rw [canTo_kept]
  cases keptAt l n with
  | none => exact allTo_nodup _
  | some x => simp
theorem prods_nodup (c : Code) (l : List Line) : ∀ n, (prods c l n).Nodup
  | 0 => by simp [prods]
  | n + 1 => by
    have ih := prods_nodup c l n
    rw [prods_succ]
    unfold moreTo
    rw [List.take_length]
    have hcan := canTo_nodup c l ((n : Int) + 1)
    generalize canTo c l ((n : Int) + 1) = can at hcan
    generalize prods c l n = ps at ih
    induction ps with
    | nil => simp
    | cons p ps ih2 =>
      rw [List.nodup_cons] at ih
      rw [List.flatMap_cons, List.nodup_append]
      refine ⟨?_, ih2 ih.2, ?_⟩
      · unfold List.Nodup at hcan ⊢
        rw [List.pairwise_map]
        exact hcan.imp fun h e => h (by simpa using e)
      · intro a ha b hb e
        subst e
        obtain ⟨w, _, rfl⟩ := List.mem_map.1 ha
        obtain ⟨q, hq, h2⟩ := List.mem_flatMap.1 hb
        obtain ⟨v, _, h3⟩ := List.mem_map.1 h2
        have := List.append_inj_left' h3 rfl
        subst this
        exact ih.1 hq
theorem tests_nodup (c : Code) (s : Sheet) : (tests c s).Nodup := by
  unfold tests; exact (prods_nodup c s.kept _).sublist List.filter_sublist
def lessOf (s : Sheet) (k : Nat) : Sheet := ⟨s.lines, s.kept.take k ++ s.kept.drop (k + 1)⟩
theorem rises_sub : ∀ {l m : List Line} {prev : Option Int}, m.Sublist l → Rises prev l → Rises prev m
  | _, _, prev, .slnil, _ => trivial
  | _, m, prev, .cons (l₂ := l) a h, hr => by
    cases m with
    | nil => trivial
    | cons y m =>
      have h2 := rises_sub h hr.2
      refine ⟨?_, h2.2⟩
      have h3 := h2.1
      have h4 := hr.1
      cases prev with
      | none => rfl
      | some z => simp at h3 h4 ⊢; omega
  | _, _, prev, .cons_cons a h, hr => ⟨hr.1, rises_sub h hr.2⟩
theorem less_sub {s : Sheet} {k : Nat} : (lessOf s k).kept.Sublist s.kept := by
  show (s.kept.take k ++ s.kept.drop (k + 1)).Sublist s.kept
  conv => rhs; rw [← List.take_append_drop k s.kept]
  exact List.Sublist.append_left (by rw [← List.drop_drop]; exact List.drop_sublist _ _) _
theorem less_lost {c : Code} {s : Sheet} (_hs : s.Ok c) {k : Nat} (hk : k < s.kept.length) : (lessOf s k).lost.length ≤ s.lost.length + 1 := by
  have hsub : ∀ n ∈ (lessOf s k).lost, n ∈ s.lost ++ [s.kept[k].no] := by
    intro n hn
    obtain ⟨h1, h2⟩ := mem_lost_iff.1 hn
    by_cases e : n = s.kept[k].no
    · simp [e]
    · rw [List.mem_append]; left
      refine mem_lost_iff.2 ⟨h1, fun x hx e2 => ?_⟩
      obtain ⟨i, hi, rfl⟩ := List.mem_iff_getElem.1 hx
      by_cases hik : i = k
      · subst hik; exact e e2.symm
      · refine h2 s.kept[i] ?_ e2
        show s.kept[i] ∈ s.kept.take k ++ s.kept.drop (k + 1)
        rw [List.mem_append]
        rcases Nat.lt_or_ge i k with h | h
        · left; rw [List.mem_take_iff_getElem]; exact ⟨i, by omega, rfl⟩
        · right; rw [List.mem_drop_iff_getElem]; exact ⟨i - (k + 1), by omega, by congr 1; omega⟩
  have := nodup_sub_len ((lost_sorted (lessOf s k)).imp fun h e => by omega) hsub
  simpa using this
theorem less_ok {c : Code} {s : Sheet} (hs : s.Ok c) {k : Nat} (hk : k < s.kept.length) (h3 : s.lost.length < 3) : (lessOf s k).err c = 0 := by
  refine err_of_ok (inB_t.2 ⟨hs.l1, hs.l2⟩) (fun x hx => hs.line x (less_sub.subset hx)) (rises_sub less_sub hs.rises) ?_
  have := less_lost hs hk; omega
theorem less_tests {c : Code} {s : Sheet} (hs : s.Ok c) {k : Nat} (hk : k < s.kept.length) (h3 : s.lost.length < 3) : ∀ t ∈ tests c s, t ∈ tests c (lessOf s k) := by
  intro t ht
  obtain ⟨h1, h2, h4⟩ := tests_mem hs ht
  have := fits_iff.1 h4
  exact (tests_iff (Sheet.ok_of_err (less_ok hs hk h3)) h1).2 (fits_iff.2 ⟨this.1, fun x hx => this.2 x (less_sub.subset hx)⟩)
theorem less_more {c : Code} {s : Sheet} (hs : s.Ok c) {k : Nat} (hk : k < s.kept.length) (h3 : s.lost.length < 3) (hn : tests c s ≠ []) :
    (tests c s).length ≤ (tests c (lessOf s k)).length ∧ 1 ≤ (tests c s).length ∧ (outcomeOf c (lessOf s k) = outcomeOf c s ∨ outcomeOf c (lessOf s k) = 2) ∧ tests c (lessOf s k) ≠ [] := by
  have hsub := less_tests hs hk h3
  obtain ⟨t0, ht0⟩ := List.exists_mem_of_ne_nil _ hn
  refine ⟨nodup_sub_len (tests_nodup c s) hsub, List.length_pos_of_mem ht0, ?_, List.ne_nil_of_mem (hsub t0 ht0)⟩
  obtain ⟨_, _, h5⟩ := outcome_says (hsub t0 ht0)
  have ho := outcome_some hn
  have ho2 := outcome_some (List.ne_nil_of_mem (hsub t0 ht0))
  rcases h5 with h | h | h
  · left
    have : ¬ ∃ t ∈ tests c s, c.passed t = true := fun ⟨t, ht, hp⟩ => ho2.1.1 ⟨t, hsub t ht, hp⟩ h
    have := Classical.byContradiction fun e => this (ho.1.2 e)
    omega
  · left
    have : ¬ ∃ t ∈ tests c s, c.passed t = false := fun ⟨t, ht, hp⟩ => ho2.2.1 ⟨t, hsub t ht, hp⟩ h
    have := Classical.byContradiction fun e => this (ho.2.2 e)
    omega
  · exact .inr h
end Go.Bp
end
section
set_option maxRecDepth 100000
set_option linter.unusedSimpArgs false
set_option linter.unusedVariables false
namespace Go.Bp
open Go.RowKit Go.Proofs
theorem risingFrom_inc {p : Int → Bool} : ∀ {l : List Int} {prev : Option Int}, risingFrom p prev l = 0 → l.Pairwise (· < ·) ∧ ∀ y, prev = some y → ∀ x ∈ l, y < x
  | [], _, _ => ⟨List.Pairwise.nil, fun _ _ x hx => by cases hx⟩
  | x :: l, prev, h => by
    unfold risingFrom at h
    split at h
    · cases h
    · split at h
      · cases h
      · rename_i h2
        obtain ⟨h3, h4⟩ := risingFrom_inc h
        refine ⟨List.pairwise_cons.2 ⟨fun z hz => h4 x rfl z hz, h3⟩, fun y e z hz => ?_⟩
        subst e
        have h5 : y < x := by simpa using h2
        rcases List.mem_cons.1 hz with e | hz
        · subst e; exact h5
        · have := h4 x rfl z hz; omega
theorem lost_rise {s : Sheet} {ls : List Int} (h : rising (hasB s.lost) ls = 0) : ls.length ≤ s.lost.length :=
  nodup_sub_len ((risingFrom_inc h).1.imp fun h e => by omega) (fun x hx => by simpa [hasB] using rising_zero h x hx)
theorem enters79 : ∀ (args : Array Value) (W : World), (callFunc 79 args).run Tryz.prog W = .ok (.enter 79 args) W := enters_of Tryz.func79 (by kernel_rfl) rfl
theorem p79_any (n : Int) (g8 gv gm : Nat) (B : Nat) (fv mv lv : Value) (c : Code) (s : Sheet) (w : World) (h8 : w.cell? ⟨g8, 0, none⟩ = some (.pointer (some ⟨gv, 0, none⟩))) (hT : TabOk B w (.pointer (some ⟨gv, 0, none⟩)) c s gv gm fv mv lv) :
    Calls Tryz.prog 79 #[.int .i64 n, .pointer (some ⟨g8, 0, none⟩)] w fun e w' => e = .returned (.bool (hasB s.lost n)) ∧ Ext w w' := by
  have hl := hT.lost.ints
  have c5 := hT.blk.cell 5
  simp [tabCells] at c5
  obtain ⟨A, cp, rfl, a1, a2, a3, a4⟩ := id hl
  have Hh := Lib.hid (any_has s.lost n)
  clear a3 a4
  go_enter Tryz.func79, Tryz.ntmps79
  go_wp2_with (go_at_call 70; refine (ContainsI_any _ s.lost n _ hl).mono ?_; rintro e w' ⟨rfl, rfl⟩)
  go_ret
  exact ⟨ret_b Hh.out, Ext.refl _⟩
theorem enough_ans0 {c : Code} {s : Sheet} {ls : List Int} (h : fittingErr c s = 0) (hr : rising (hasB s.lost) ls = 0) : enoughAns c s ls = (enough c (tests c s) ls, 0) := by
  unfold enoughAns enoughErr; rw [if_neg (by simp [h, hr])]
theorem enough_ans1 {c : Code} {s : Sheet} {ls : List Int} (h : fittingErr c s = 0) (hr : rising (hasB s.lost) ls ≠ 0) : enoughAns c s ls = (false, rising (hasB s.lost) ls) := by
  unfold enoughAns enoughErr; rw [if_pos (by simp [h, hr]), if_neg (by simp [h])]
theorem enough_ans2 {c : Code} {s : Sheet} {ls : List Int} (h : fittingErr c s ≠ 0) : enoughAns c s ls = (false, fittingErr c s) := by
  unfold enoughAns enoughErr; rw [if_pos (by simp [h]), if_pos h]
set_option maxHeartbeats 4000000 in
theorem PEnough_any (cv sv lv0 : Value) (c : Code) (s : Sheet) (ls : List Int) (w : World) (h : CodeV w cv c) (hsv : SheetV w sv s) (hl : Ints w lv0 ls) :
    Calls Tryz.prog 34 #[cv, sv, lv0] w (RetBI w (enoughAns c s ls).1 (enoughAns c s ls).2) := by
  obtain ⟨fv, mv, rfl, hF, hM, hW⟩ := h
  obtain ⟨kv, rfl, hK⟩ := hsv
  have hE := Ext.refl w
  have HW := Lib.hid hW
  clear hW
  by_cases ha : fittingErr c s = 0
  · obtain ⟨ho, hs, hne⟩ := fittingErr_zero ha
    have Ho := Lib.hid ho; have Hs := Lib.hid hs
    have q1 : (fittingErr c s != 0) = false := by simp [ha]
    have hFw := hF; have hMw := hM
    have Ha := Lib.hid ha
    clear ho hs hne
    by_cases hr : rising (hasB s.lost) ls = 0
    · have q2 : (rising (hasB s.lost) ls != 0) = false := by simp [hr]
      have Hr := Lib.hid (enough_ans0 ha hr)
      have Hls := Lib.hid (rising_lost hr)
      have hl12 : ls.length ≤ 12 := by have := lost_rise hr; have := Hs.out.lost3; omega
      clear ha hr
      rw [Hr.out]
      go_enter Tryz.func34, Tryz.ntmps34
      go_wp2_with (first | ((go_at_call 76; ((with_reducible refine (pfitting_any _ _ _ c s _ (by exact hF) (by exact hM) HW.out (by exact SheetV.of hK)).mono ?_)); rintro e W72 ⟨v72, rfl, hE72, hN72, hT72⟩; have hszb := hE.size; replace hE := hE.trans hE72; replace hl := hl.ext hE72; obtain ⟨gv, gm, lv, hT⟩ := hT72 Ha.out; have hTe := hT.eq; subst hTe; replace hT := hT.base hszb; clear hT72 hN72)) | (((with_reducible refine q_newvar (e := 101) (u := 8) (v := .pointer (some ⟨gv, 0, none⟩)) ti101 ?_ ?_ ?_ ?_ ?_ ?_); (intro g; rfl); (intro g; rfl); rfl; rfl; (simp [Value.cells, Value.oneCell']); intro W8 g8 hE8 hB8 hg8; simp [Value.cells] at hB8; replace hT := hT.ext hE8; replace hl := hl.ext hE8; replace hE := hE.trans hE8; have c8 := cell_blk hB8)) | ((with_reducible refine q_box (d := some 3) ?_); intro W3 g3 hE3 hB3 hg3; simp [Act.eval, Act.put, Value.cells] at hB3; (try replace hE := hE.trans hE3); (try replace hF := hF.ext hE3); (try replace hM := hM.ext hE3); (try replace hK := hK.ext hE3); (try replace hl := hl.ext hE3); (try replace hB3 := hB3.ext hE3); (try replace hB4 := hB4.ext hE3); (try replace hb3_0 := Ext.cell_some hE3 hb3_0); (try replace hb3_1 := Ext.cell_some hE3 hb3_1); (try replace hb3_2 := Ext.cell_some hE3 hb3_2); (try replace hb4_0 := Ext.cell_some hE3 hb4_0); (try replace hb4_1 := Ext.cell_some hE3 hb4_1); have hb3_0 := hB3.cell 0; have hb3_1 := hB3.cell 1; have hb3_2 := hB3.cell 2; simp at hb3_0 hb3_1 hb3_2; clear hE3) | ((with_reducible refine q_box (d := some 4) ?_); intro W4 g4 hE4 hB4 hg4; simp [Act.eval, Act.put, Value.cells] at hB4; (try replace hE := hE.trans hE4); (try replace hF := hF.ext hE4); (try replace hM := hM.ext hE4); (try replace hK := hK.ext hE4); (try replace hl := hl.ext hE4); (try replace hB3 := hB3.ext hE4); (try replace hB4 := hB4.ext hE4); (try replace hb3_0 := Ext.cell_some hE4 hb3_0); (try replace hb3_1 := Ext.cell_some hE4 hb3_1); (try replace hb3_2 := Ext.cell_some hE4 hb3_2); (try replace hb4_0 := Ext.cell_some hE4 hb4_0); (try replace hb4_1 := Ext.cell_some hE4 hb4_1); have hb4_0 := hB4.cell 0; have hb4_1 := hB4.cell 1; simp at hb4_0 hb4_1; clear hE4))
      have hp : Pred W8 79 #[.pointer (some ⟨g8, 0, none⟩)] (hasB s.lost) ls := fun x _ W hWe => p79_any x g8 gv gm _ fv mv lv c s W (Ext.cell_some hWe c8) (hT.ext hWe)
      have Hp := Lib.hid hp
      clear hp
      refine (prising_any 79 _ _ _ ls _ hl enters79 Hp.out).mono ?_
      rintro e Wc ⟨rfl, hEc⟩
      replace hT := hT.ext hEc; replace hl := hl.ext hEc; replace hE := hE.trans hEc; replace c8 := Ext.cell_some hEc c8
      go_wp2_with (go_at_call 80; refine (penough_any gv gm fv mv lv _ c s ls w _ hE hT hFw hMw HW.out Ho.out Hs.out hl Hls.out hl12).mono ?_; rintro e W80 ⟨rfl, hE80⟩)
      go_ret2
      exact ⟨rfl, hE.trans hE80⟩
    · have q2 : (rising (hasB s.lost) ls != 0) = true := by simp [hr]
      have Hr := Lib.hid (enough_ans1 ha hr)
      clear ha hr
      rw [Hr.out]
      go_enter Tryz.func34, Tryz.ntmps34
      go_wp2_with (first | ((go_at_call 76; ((with_reducible refine (pfitting_any _ _ _ c s _ (by exact hF) (by exact hM) HW.out (by exact SheetV.of hK)).mono ?_)); rintro e W72 ⟨v72, rfl, hE72, hN72, hT72⟩; have hszb := hE.size; replace hE := hE.trans hE72; replace hl := hl.ext hE72; obtain ⟨gv, gm, lv, hT⟩ := hT72 Ha.out; have hTe := hT.eq; subst hTe; replace hT := hT.base hszb; clear hT72 hN72)) | (((with_reducible refine q_newvar (e := 101) (u := 8) (v := .pointer (some ⟨gv, 0, none⟩)) ti101 ?_ ?_ ?_ ?_ ?_ ?_); (intro g; rfl); (intro g; rfl); rfl; rfl; (simp [Value.cells, Value.oneCell']); intro W8 g8 hE8 hB8 hg8; simp [Value.cells] at hB8; replace hT := hT.ext hE8; replace hl := hl.ext hE8; replace hE := hE.trans hE8; have c8 := cell_blk hB8)) | ((with_reducible refine q_box (d := some 3) ?_); intro W3 g3 hE3 hB3 hg3; simp [Act.eval, Act.put, Value.cells] at hB3; (try replace hE := hE.trans hE3); (try replace hF := hF.ext hE3); (try replace hM := hM.ext hE3); (try replace hK := hK.ext hE3); (try replace hl := hl.ext hE3); (try replace hB3 := hB3.ext hE3); (try replace hB4 := hB4.ext hE3); (try replace hb3_0 := Ext.cell_some hE3 hb3_0); (try replace hb3_1 := Ext.cell_some hE3 hb3_1); (try replace hb3_2 := Ext.cell_some hE3 hb3_2); (try replace hb4_0 := Ext.cell_some hE3 hb4_0); (try replace hb4_1 := Ext.cell_some hE3 hb4_1); have hb3_0 := hB3.cell 0; have hb3_1 := hB3.cell 1; have hb3_2 := hB3.cell 2; simp at hb3_0 hb3_1 hb3_2; clear hE3) | ((with_reducible refine q_box (d := some 4) ?_); intro W4 g4 hE4 hB4 hg4; simp [Act.eval, Act.put, Value.cells] at hB4; (try replace hE := hE.trans hE4); (try replace hF := hF.ext hE4); (try replace hM := hM.ext hE4); (try replace hK := hK.ext hE4); (try replace hl := hl.ext hE4); (try replace hB3 := hB3.ext hE4); (try replace hB4 := hB4.ext hE4); (try replace hb3_0 := Ext.cell_some hE4 hb3_0); (try replace hb3_1 := Ext.cell_some hE4 hb3_1); (try replace hb3_2 := Ext.cell_some hE4 hb3_2); (try replace hb4_0 := Ext.cell_some hE4 hb4_0); (try replace hb4_1 := Ext.cell_some hE4 hb4_1); have hb4_0 := hB4.cell 0; have hb4_1 := hB4.cell 1; simp at hb4_0 hb4_1; clear hE4))
      have hp : Pred W8 79 #[.pointer (some ⟨g8, 0, none⟩)] (hasB s.lost) ls := fun x _ W hWe => p79_any x g8 gv gm _ fv mv lv c s W (Ext.cell_some hWe c8) (hT.ext hWe)
      have Hp := Lib.hid hp
      clear hp
      refine (prising_any 79 _ _ _ ls _ hl enters79 Hp.out).mono ?_
      rintro e Wc ⟨rfl, hEc⟩
      replace hT := hT.ext hEc; replace hl := hl.ext hEc; replace hE := hE.trans hEc; replace c8 := Ext.cell_some hEc c8
      go_wp2
      go_ret2
      exact ⟨rfl, hE⟩
  · have q1 : (fittingErr c s != 0) = true := by simp [ha]
    have Hr := Lib.hid (enough_ans2 (ls := ls) ha)
    have Ha := Lib.hid ha
    clear ha
    rw [Hr.out]
    go_enter Tryz.func34, Tryz.ntmps34
    go_wp2_with (first | ((go_at_call 76; ((with_reducible refine (pfitting_any _ _ _ c s _ (by exact hF) (by exact hM) HW.out (by exact SheetV.of hK)).mono ?_)); rintro e W72 ⟨v72, rfl, hE72, hN72, hT72⟩; replace hE := hE.trans hE72; have hv72 := hN72 Ha.out; subst hv72)) | (((with_reducible refine q_newvar (e := 101) (u := 8) (v := .pointer none) ti101 ?_ ?_ ?_ ?_ ?_ ?_); (intro g; rfl); (intro g; rfl); rfl; rfl; (simp [Value.cells, Value.oneCell']); intro W8 g8 hE8 hB8 hg8; replace hE := hE.trans hE8)) | ((with_reducible refine q_box (d := some 3) ?_); intro W3 g3 hE3 hB3 hg3; simp [Act.eval, Act.put, Value.cells] at hB3; (try replace hE := hE.trans hE3); (try replace hF := hF.ext hE3); (try replace hM := hM.ext hE3); (try replace hK := hK.ext hE3); (try replace hl := hl.ext hE3); (try replace hB3 := hB3.ext hE3); (try replace hB4 := hB4.ext hE3); (try replace hb3_0 := Ext.cell_some hE3 hb3_0); (try replace hb3_1 := Ext.cell_some hE3 hb3_1); (try replace hb3_2 := Ext.cell_some hE3 hb3_2); (try replace hb4_0 := Ext.cell_some hE3 hb4_0); (try replace hb4_1 := Ext.cell_some hE3 hb4_1); have hb3_0 := hB3.cell 0; have hb3_1 := hB3.cell 1; have hb3_2 := hB3.cell 2; simp at hb3_0 hb3_1 hb3_2; clear hE3) | ((with_reducible refine q_box (d := some 4) ?_); intro W4 g4 hE4 hB4 hg4; simp [Act.eval, Act.put, Value.cells] at hB4; (try replace hE := hE.trans hE4); (try replace hF := hF.ext hE4); (try replace hM := hM.ext hE4); (try replace hK := hK.ext hE4); (try replace hl := hl.ext hE4); (try replace hB3 := hB3.ext hE4); (try replace hB4 := hB4.ext hE4); (try replace hb3_0 := Ext.cell_some hE4 hb3_0); (try replace hb3_1 := Ext.cell_some hE4 hb3_1); (try replace hb3_2 := Ext.cell_some hE4 hb3_2); (try replace hb4_0 := Ext.cell_some hE4 hb4_0); (try replace hb4_1 := Ext.cell_some hE4 hb4_1); have hb4_0 := hB4.cell 0; have hb4_1 := hB4.cell 1; simp at hb4_0 hb4_1; clear hE4))
    go_ret2
    exact ⟨rfl, hE⟩
theorem enters80 : ∀ (args : Array Value) (W : World), (callFunc 80 args).run Tryz.prog W = .ok (.enter 80 args) W := enters_of Tryz.func80 (by kernel_rfl) rfl
theorem fewest_ans {c : Code} {s : Sheet} (h : fittingErr c s = 0) : fewestAns c s = (fewestOf c s, 0) := by unfold fewestAns; rw [if_neg (by simp [h])]
set_option maxHeartbeats 4000000 in
theorem PFewest_any (cv sv : Value) (c : Code) (s : Sheet) (w : World) (h : CodeV w cv c) (hsv : SheetV w sv s) :
    Calls Tryz.prog 36 #[cv, sv] w (RetOI w (fewestAns c s).1 (fewestAns c s).2) := by
  obtain ⟨fv, mv, rfl, hF, hM, hW⟩ := h
  obtain ⟨kv, rfl, hK⟩ := hsv
  have hE := Ext.refl w
  have HW := Lib.hid hW
  clear hW
  by_cases ha : fittingErr c s = 0
  · obtain ⟨ho, hs, hne⟩ := fittingErr_zero ha
    have Ho := Lib.hid ho; have Hs := Lib.hid hs
    have q1 : (fittingErr c s != 0) = false := by simp [ha]
    have hFw := hF; have hMw := hM
    have Ha := Lib.hid ha
    have Hr := Lib.hid (fewest_ans ha)
    have hl12 : s.lost.length ≤ 12 := by have := hs.lost3; omega
    clear ha ho hs hne
    rw [Hr.out]
    go_enter Tryz.func36, Tryz.ntmps36
    go_wp2_with (first | ((go_at_call 76; ((with_reducible refine (pfitting_any _ _ _ c s _ (by exact hF) (by exact hM) HW.out (by exact SheetV.of hK)).mono ?_)); rintro e W72 ⟨v72, rfl, hE72, hN72, hT72⟩; have hszb := hE.size; replace hE := hE.trans hE72; obtain ⟨gv, gm, lv, hT⟩ := hT72 Ha.out; have hTe := hT.eq; subst hTe; replace hT := hT.base hszb; clear hT72 hN72; have c5 := hT.blk.cell 5; simp [tabCells] at c5; have hlo := hT.lost.ints; (obtain ⟨Al, cpl, hlve, _, _, _, _⟩ := id hlo); subst hlve; have hH : HoldsC W72 80 #[.pointer (some ⟨gv, 0, none⟩)] #[] (enough c (tests c s)) s.lost := (fun l v W hl hW hv => (by have := penough_any gv gm fv mv _ v c s l w W (hE.trans hW) (hT.ext hW) hFw hMw HW.out Ho.out Hs.out hv (fun n hn => mem_lost (hl.subset hn)) (by have := hl.length_le; omega); simpa using this)); have HH := Lib.hid hH; clear hH)) | ((go_at_call 65; refine (pfewest_any 80 #[.pointer (some ⟨gv, 0, none⟩)] #[] _ _ (enough c (tests c s)) _ hlo hl12 enters80 HH.out).mono ?_; rintro e W65 ⟨v65, b65, rfl, hE65, hR65⟩)) | ((with_reducible refine q_box (d := some 2) ?_); intro W2 g2 hE2 hB2 hg2; simp [Act.eval, Act.put, Value.cells] at hB2; (try replace hE := hE.trans hE2); (try replace hF := hF.ext hE2); (try replace hM := hM.ext hE2); (try replace hK := hK.ext hE2); (try replace hB2 := hB2.ext hE2); (try replace hB3 := hB3.ext hE2); (try replace hb2_0 := Ext.cell_some hE2 hb2_0); (try replace hb2_1 := Ext.cell_some hE2 hb2_1); (try replace hb2_2 := Ext.cell_some hE2 hb2_2); (try replace hb3_0 := Ext.cell_some hE2 hb3_0); (try replace hb3_1 := Ext.cell_some hE2 hb3_1); have hb2_0 := hB2.cell 0; have hb2_1 := hB2.cell 1; have hb2_2 := hB2.cell 2; simp at hb2_0 hb2_1 hb2_2; clear hE2) | ((with_reducible refine q_box (d := some 3) ?_); intro W3 g3 hE3 hB3 hg3; simp [Act.eval, Act.put, Value.cells] at hB3; (try replace hE := hE.trans hE3); (try replace hF := hF.ext hE3); (try replace hM := hM.ext hE3); (try replace hK := hK.ext hE3); (try replace hB2 := hB2.ext hE3); (try replace hB3 := hB3.ext hE3); (try replace hb2_0 := Ext.cell_some hE3 hb2_0); (try replace hb2_1 := Ext.cell_some hE3 hb2_1); (try replace hb2_2 := Ext.cell_some hE3 hb2_2); (try replace hb3_0 := Ext.cell_some hE3 hb3_0); (try replace hb3_1 := Ext.cell_some hE3 hb3_1); have hb3_0 := hB3.cell 0; have hb3_1 := hB3.cell 1; simp at hb3_0 hb3_1; clear hE3))
    go_ret2
    obtain ⟨l, hf1, hf2⟩ := fewest_is Hs.out
    rcases hR65 with ⟨_, l', hs65, hv65⟩ | ⟨_, hn65, _⟩
    · rw [hf1] at hs65; injection hs65 with e1; subst e1
      rw [hf2]
      exact ⟨_, rfl, hv65, hE.trans hE65⟩
    · rw [hf1] at hn65; cases hn65
  · have q1 : (fittingErr c s != 0) = true := by simp [ha]
    have Hr := Lib.hid (fewest_e ha)
    have Ha := Lib.hid ha
    clear ha
    rw [Hr.out]
    go_enter Tryz.func36, Tryz.ntmps36
    go_wp2_with (first | ((go_at_call 76; ((with_reducible refine (pfitting_any _ _ _ c s _ (by exact hF) (by exact hM) HW.out (by exact SheetV.of hK)).mono ?_)); rintro e W72 ⟨v72, rfl, hE72, hN72, hT72⟩; replace hE := hE.trans hE72; have hv72 := hN72 Ha.out; subst hv72)) | ((with_reducible refine q_box (d := some 2) ?_); intro W2 g2 hE2 hB2 hg2; simp [Act.eval, Act.put, Value.cells] at hB2; (try replace hE := hE.trans hE2); (try replace hF := hF.ext hE2); (try replace hM := hM.ext hE2); (try replace hK := hK.ext hE2); (try replace hB2 := hB2.ext hE2); (try replace hB3 := hB3.ext hE2); (try replace hb2_0 := Ext.cell_some hE2 hb2_0); (try replace hb2_1 := Ext.cell_some hE2 hb2_1); (try replace hb2_2 := Ext.cell_some hE2 hb2_2); (try replace hb3_0 := Ext.cell_some hE2 hb3_0); (try replace hb3_1 := Ext.cell_some hE2 hb3_1); have hb2_0 := hB2.cell 0; have hb2_1 := hB2.cell 1; have hb2_2 := hB2.cell 2; simp at hb2_0 hb2_1 hb2_2; clear hE2) | ((with_reducible refine q_box (d := some 3) ?_); intro W3 g3 hE3 hB3 hg3; simp [Act.eval, Act.put, Value.cells] at hB3; (try replace hE := hE.trans hE3); (try replace hF := hF.ext hE3); (try replace hM := hM.ext hE3); (try replace hK := hK.ext hE3); (try replace hB2 := hB2.ext hE3); (try replace hB3 := hB3.ext hE3); (try replace hb2_0 := Ext.cell_some hE3 hb2_0); (try replace hb2_1 := Ext.cell_some hE3 hb2_1); (try replace hb2_2 := Ext.cell_some hE3 hb2_2); (try replace hb3_0 := Ext.cell_some hE3 hb3_0); (try replace hb3_1 := Ext.cell_some hE3 hb3_1); have hb3_0 := hB3.cell 0; have hb3_1 := hB3.cell 1; simp at hb3_0 hb3_1; clear hE3))
    go_ret2
    exact ⟨_, rfl, IntB.of_own (OwnI.nil 0 _), hE⟩
end Go.Bp
end
