/- Texts P8 P9 P10 P11 P12 P13 Rm of the proof, merged: contracts of functions of chapter 10, of the program and of the reference, and plain laws. -/
import Derived.RangeFuncBound
import Derived.TacticsIn
import Derived.Test.YthomnkgiaapljaaGreatDoorD03
import Derived.Test.YthomnkgiaapljaaGreatDoorD04
import Derived.WalkSmall
section
set_option maxRecDepth 100000
set_option linter.unusedSimpArgs false
set_option linter.unusedVariables false
namespace Go.Bp
open Go.RowKit Go.Proofs
theorem keptAt_succ (l : List Line) (n : Int) {k : Nat} (hk : k < l.length) : keptAt (l.take (k + 1)) n = if l[k].no = n then some l[k] else keptAt (l.take k) n := by
  unfold keptAt; rw [take_snoc _ hk, List.foldl_append]; rfl
theorem keptM_upd (l : List Line) {k : Nat} (hk : k < l.length) (z : Value) : upd (upd (keptM (l.take k)) l[k].no z) l[k].no (lineV l[k]) = keptM (l.take (k + 1)) := by
  funext n
  unfold upd keptM
  rw [keptAt_succ l n hk]
  by_cases h : n = l[k].no
  · subst h; simp
  · have h' : ¬ l[k].no = n := fun e => h e.symm
    simp [h, h']
def lastNo (l : List Line) (k : Nat) : Int := if k = 0 then 0 else (l[k - 1]?.map Line.no).getD 0
theorem lastNo_succ (l : List Line) {k : Nat} (hk : k < l.length) : lastNo l (k + 1) = l[k].no := by simp [lastNo, hk]
theorem lastNo_prev (l : List Line) {k : Nat} {n : Int} (hn : 1 ≤ n) (hk : k ≤ l.length) : (prevNo l k).any (fun y => decide (n ≤ y)) = decide (n ≤ lastNo l k) := by
  unfold prevNo lastNo
  by_cases h : k = 0
  · simp [h]; omega
  · have h2 : k - 1 < l.length := by omega
    simp [h, h2]
theorem keptAt_isSome (l : List Line) (n : Int) : (keptAt l n).isSome = keptB l n := by
  cases hk : keptAt l n with
  | none =>
    have h := keptAt_none hk
    symm; simp only [Option.isSome_none, keptB, List.any_eq_false]; intro x hx; simpa using h x hx
  | some x =>
    obtain ⟨h1, h2⟩ := keptAt_some hk
    symm; simp only [Option.isSome_some, keptB, List.any_eq_true]; exact ⟨x, h1, by simpa using h2⟩
theorem map_ne {κ : Type} [DecidableEq κ] {kv : κ → Value} {w : World} {g : Nat} {m : κ → Option Value} {B : Nat} {e : TypeId} {size n : Nat} {v : Value} {xs : List Value} (h : MapM kv w g m) (hown : w.ownsRow B e size v n xs) : some g ≠ v.ownBlock := by
  intro he
  obtain ⟨es, cl, h1, _⟩ := h
  rcases hown.2 with ⟨rfl, _⟩ | ⟨g', cap, cur, rfl, hb, hh, _⟩
  · simp [Value.ownBlock] at he
  · obtain rfl : g = g' := by simpa [Value.ownBlock] using he
    rw [h1] at hh; cases hh
theorem own_cells {w : World} {B : Nat} {e : TypeId} {size n : Nat} {v : Value} {xs : List Value} (h : w.ownsRow B e size v n xs) : v.cells = #[v] ∧ v.oneCell' = true := by
  rcases h.2 with ⟨rfl, _⟩ | ⟨g, cap, cur, rfl, _⟩
  · exact ⟨rfl, rfl⟩
  · exact ⟨rfl, rfl⟩
/-- What open, see and fitting hand back with OK: a sheet that is looked at, in blocks from B on. -/
structure TabOk (B : Nat) (w : World) (v : Value) (c : Code) (s : Sheet) (gt gm : Nat) (fv mv lv : Value) : Prop where
  eq : v = .pointer (some ⟨gt, 0, none⟩)
  b1 : B ≤ gt
  b2 : B ≤ gm
  blk : Blk w gt 111 (tabCells fv mv c s.lines gm lv)
  map : MapM ikv w gm (keptM s.kept)
  lost : OwnI B w lv s.lost
/-- A sheet that is looked at, and an error. -/
def RetT (w : World) (c : Code) (s : Sheet) (fv mv : Value) (err : Int) (e : Ending) (w' : World) : Prop :=
  ∃ v, e = .returned (.tuple #[v, .int .i64 err]) ∧ Ext w w' ∧ (err ≠ 0 → v = .pointer none) ∧ (err = 0 → ∃ gt gm lv, TabOk w.heap.size w' v c s gt gm fv mv lv)
theorem RetT.no {w w' : World} {c : Code} {s : Sheet} {fv mv : Value} {err : Int} (h : Ext w w') (he : err ≠ 0) : RetT w c s fv mv err (.returned (.tuple #[.pointer none, .int .i64 err])) w' :=
  ⟨_, rfl, h, fun _ => rfl, fun h0 => absurd h0 he⟩
set_option maxHeartbeats 6000000 in
theorem psee_any (fv mv sv : Value) (c : Code) (s : Sheet) (w : World) (hF : Faults w fv c.faults) (hM : Strs w mv c.man) (hsv : SheetV w sv s) (ho : c.Ok) :
    Calls Tryz.prog 94 #[.agg #[fv, mv, .int .i64 c.all], sv] w (RetT w c s fv mv (s.err c)) := by
  obtain ⟨kv, rfl, hK⟩ := hsv
  obtain ⟨A, cp, rfl, h1, h2, h3, h4⟩ := hK
  unfold maxLen at h2
  clear h3
  have hE := Ext.refl w
  have Ho := Lib.hid ho
  have Hcb := Lib.hid (show c.faults.length ≤ 1000000 ∧ c.man.length ≤ 1000000 from ⟨by have := ho.nf2; omega, by have := ho.nm; omega⟩)
  have ht9 := ho.thing9
  have ht1 := ho.thing1
  clear ho
  cases hl : inB s.lines 1 12 with
  | false =>
    have Hr := Lib.hid (Sheet.err_lines (c := c) hl)
    clear h4
    rw [Hr.out]
    go_enter Tryz.func94, Tryz.ntmps94
    go_wp2_with (first | ((go_at_call 52; refine (pout_any _ _ _ _).mono ?_; rintro e w' ⟨rfl, rfl⟩)) | ((with_reducible refine q_box (d := some 2) ?_); intro W2 g2 hE2 hB2 hg2; simp [Act.eval, Act.put, Value.cells] at hB2; (try replace hE := hE.trans hE2); (try replace hF := hF.ext hE2); (try replace hM := hM.ext hE2); (try replace hB2 := hB2.ext hE2); (try replace hB3 := hB3.ext hE2); (try replace hB21 := hB21.ext hE2); (try replace hb2_0 := Ext.cell_some hE2 hb2_0); (try replace hb2_1 := Ext.cell_some hE2 hb2_1); (try replace hb2_2 := Ext.cell_some hE2 hb2_2); (try replace hb3_0 := Ext.cell_some hE2 hb3_0); (try replace hb3_1 := Ext.cell_some hE2 hb3_1); (try replace hb21_0 := Ext.cell_some hE2 hb21_0); (try replace hb21_1 := Ext.cell_some hE2 hb21_1); (try replace hb21_2 := Ext.cell_some hE2 hb21_2); (try replace hb21_3 := Ext.cell_some hE2 hb21_3); (try replace hb21_4 := Ext.cell_some hE2 hb21_4); (try replace hb21_5 := Ext.cell_some hE2 hb21_5); have hb2_0 := hB2.cell 0; have hb2_1 := hB2.cell 1; have hb2_2 := hB2.cell 2; simp at hb2_0 hb2_1 hb2_2; clear hE2) | ((with_reducible refine q_box (d := some 3) ?_); intro W3 g3 hE3 hB3 hg3; simp [Act.eval, Act.put, Value.cells] at hB3; (try replace hE := hE.trans hE3); (try replace hF := hF.ext hE3); (try replace hM := hM.ext hE3); (try replace hB2 := hB2.ext hE3); (try replace hB3 := hB3.ext hE3); (try replace hB21 := hB21.ext hE3); (try replace hb2_0 := Ext.cell_some hE3 hb2_0); (try replace hb2_1 := Ext.cell_some hE3 hb2_1); (try replace hb2_2 := Ext.cell_some hE3 hb2_2); (try replace hb3_0 := Ext.cell_some hE3 hb3_0); (try replace hb3_1 := Ext.cell_some hE3 hb3_1); (try replace hb21_0 := Ext.cell_some hE3 hb21_0); (try replace hb21_1 := Ext.cell_some hE3 hb21_1); (try replace hb21_2 := Ext.cell_some hE3 hb21_2); (try replace hb21_3 := Ext.cell_some hE3 hb21_3); (try replace hb21_4 := Ext.cell_some hE3 hb21_4); (try replace hb21_5 := Ext.cell_some hE3 hb21_5); have hb3_0 := hB3.cell 0; have hb3_1 := hB3.cell 1; simp at hb3_0 hb3_1; clear hE3) | ((with_reducible refine q_box (d := some 21) ?_); intro W21 g21 hE21 hB21 hg21; simp [Act.eval, Act.put, Value.cells] at hB21; (try replace hE := hE.trans hE21); (try replace hF := hF.ext hE21); (try replace hM := hM.ext hE21); (try replace hB2 := hB2.ext hE21); (try replace hB3 := hB3.ext hE21); (try replace hB21 := hB21.ext hE21); (try replace hb2_0 := Ext.cell_some hE21 hb2_0); (try replace hb2_1 := Ext.cell_some hE21 hb2_1); (try replace hb2_2 := Ext.cell_some hE21 hb2_2); (try replace hb3_0 := Ext.cell_some hE21 hb3_0); (try replace hb3_1 := Ext.cell_some hE21 hb3_1); (try replace hb21_0 := Ext.cell_some hE21 hb21_0); (try replace hb21_1 := Ext.cell_some hE21 hb21_1); (try replace hb21_2 := Ext.cell_some hE21 hb21_2); (try replace hb21_3 := Ext.cell_some hE21 hb21_3); (try replace hb21_4 := Ext.cell_some hE21 hb21_4); (try replace hb21_5 := Ext.cell_some hE21 hb21_5); have hb21_0 := hB21.cell 0; have hb21_1 := hB21.cell 1; have hb21_2 := hB21.cell 2; have hb21_3 := hB21.cell 3; have hb21_4 := hB21.cell 4; have hb21_5 := hB21.cell 5; simp at hb21_0 hb21_1 hb21_2 hb21_3 hb21_4 hb21_5; clear hE21))
    go_ret2
    exact RetT.no hE (by decide)
  | true =>
    have hl2 := inB_t.1 hl
    obtain ⟨hl3, hl4⟩ := hl2
    have Hl := Lib.hid hl
    go_enter Tryz.func94, Tryz.ntmps94
    go_wp2_with (first | ((go_at_call 52; refine (pout_any _ _ _ _).mono ?_; rintro e w' ⟨rfl, rfl⟩)) | (((with_reducible refine q_makeMap (d := some 19) (kv := ikv) ?_); intro W19 g19 hE19 hM19 hg19; have k30 := hb3_0; have k31 := hb3_1; have kE3 := hE; have kE := hE19; have kF := hF; have kM := hM; replace hb3_0 := Ext.cell_some hE19 hb3_0; replace hb3_1 := Ext.cell_some hE19 hb3_1)) | (((with_reducible refine q_box (d := some 21) ?_); intro W21 g21 hE21 hB21 hg21; have hB22 : Blk W21 g21 111 (tabCells fv mv c s.lines g19 (.slice none 0 0)) := hB21; have hM21 := hM19.ext hE21; replace kE := kE.trans hE21; replace hb3_0 := Ext.cell_some hE21 hb3_0; replace hb3_1 := Ext.cell_some hE21 hb3_1)) | ((with_reducible refine q_box (d := some 2) ?_); intro W2 g2 hE2 hB2 hg2; simp [Act.eval, Act.put, Value.cells] at hB2; (try replace hE := hE.trans hE2); (try replace hF := hF.ext hE2); (try replace hM := hM.ext hE2); (try replace hB2 := hB2.ext hE2); (try replace hB3 := hB3.ext hE2); (try replace hB21 := hB21.ext hE2); (try replace hb2_0 := Ext.cell_some hE2 hb2_0); (try replace hb2_1 := Ext.cell_some hE2 hb2_1); (try replace hb2_2 := Ext.cell_some hE2 hb2_2); (try replace hb3_0 := Ext.cell_some hE2 hb3_0); (try replace hb3_1 := Ext.cell_some hE2 hb3_1); (try replace hb21_0 := Ext.cell_some hE2 hb21_0); (try replace hb21_1 := Ext.cell_some hE2 hb21_1); (try replace hb21_2 := Ext.cell_some hE2 hb21_2); (try replace hb21_3 := Ext.cell_some hE2 hb21_3); (try replace hb21_4 := Ext.cell_some hE2 hb21_4); (try replace hb21_5 := Ext.cell_some hE2 hb21_5); have hb2_0 := hB2.cell 0; have hb2_1 := hB2.cell 1; have hb2_2 := hB2.cell 2; simp at hb2_0 hb2_1 hb2_2; clear hE2) | ((with_reducible refine q_box (d := some 3) ?_); intro W3 g3 hE3 hB3 hg3; simp [Act.eval, Act.put, Value.cells] at hB3; (try replace hE := hE.trans hE3); (try replace hF := hF.ext hE3); (try replace hM := hM.ext hE3); (try replace hB2 := hB2.ext hE3); (try replace hB3 := hB3.ext hE3); (try replace hB21 := hB21.ext hE3); (try replace hb2_0 := Ext.cell_some hE3 hb2_0); (try replace hb2_1 := Ext.cell_some hE3 hb2_1); (try replace hb2_2 := Ext.cell_some hE3 hb2_2); (try replace hb3_0 := Ext.cell_some hE3 hb3_0); (try replace hb3_1 := Ext.cell_some hE3 hb3_1); (try replace hb21_0 := Ext.cell_some hE3 hb21_0); (try replace hb21_1 := Ext.cell_some hE3 hb21_1); (try replace hb21_2 := Ext.cell_some hE3 hb21_2); (try replace hb21_3 := Ext.cell_some hE3 hb21_3); (try replace hb21_4 := Ext.cell_some hE3 hb21_4); (try replace hb21_5 := Ext.cell_some hE3 hb21_5); have hb3_0 := hB3.cell 0; have hb3_1 := hB3.cell 1; simp at hb3_0 hb3_1; clear hE3) | ((with_reducible refine q_box (d := some 21) ?_); intro W21 g21 hE21 hB21 hg21; simp [Act.eval, Act.put, Value.cells] at hB21; (try replace hE := hE.trans hE21); (try replace hF := hF.ext hE21); (try replace hM := hM.ext hE21); (try replace hB2 := hB2.ext hE21); (try replace hB3 := hB3.ext hE21); (try replace hB21 := hB21.ext hE21); (try replace hb2_0 := Ext.cell_some hE21 hb2_0); (try replace hb2_1 := Ext.cell_some hE21 hb2_1); (try replace hb2_2 := Ext.cell_some hE21 hb2_2); (try replace hb3_0 := Ext.cell_some hE21 hb3_0); (try replace hb3_1 := Ext.cell_some hE21 hb3_1); (try replace hb21_0 := Ext.cell_some hE21 hb21_0); (try replace hb21_1 := Ext.cell_some hE21 hb21_1); (try replace hb21_2 := Ext.cell_some hE21 hb21_2); (try replace hb21_3 := Ext.cell_some hE21 hb21_3); (try replace hb21_4 := Ext.cell_some hE21 hb21_4); (try replace hb21_5 := Ext.cell_some hE21 hb21_5); have hb21_0 := hB21.cell 0; have hb21_1 := hB21.cell 1; have hb21_2 := hB21.cell 2; have hb21_3 := hB21.cell 3; have hb21_4 := hB21.cell 4; have hb21_5 := hB21.cell 5; simp at hb21_0 hb21_1 hb21_2 hb21_3 hb21_4 hb21_5; clear hE21))
    go_loopw [7, 25] (fun l i wr => Ext W3 wr ∧ ∃ k : Nat, k ≤ s.kept.length ∧ i = .int .i64 k ∧ l = .int .i64 (lastNo s.kept k) ∧ Blk wr g21 111 (tabCells fv mv c s.lines g19 (.slice none 0 0)) ∧ MapM ikv wr g19 (keptM (s.kept.take k)) ∧ c.linesErr s.lines none s.kept = c.linesErr s.lines (prevNo s.kept k) (s.kept.drop k) ∧ ∀ x ∈ s.kept.take k, x.no ≤ lastNo s.kept k) (fun _ i _ => s.kept.length - (intOf i).toNat)
    case atStart => exact ⟨kE, 0, by omega, rfl, rfl, hB22, hM21, rfl, by simp⟩
    case round =>
      obtain ⟨hEr, k, hk, rfl, rfl, hBt, hMp, hle, hbf⟩ := hrel
      have Hle := Lib.hid hle; have Hbf := Lib.hid hbf
      have d30 := Ext.cell_some hEr k30; have d31 := Ext.cell_some hEr k31
      have kFr := kF.ext hEr; have kMr := kM.ext hEr
      clear hle hbf hb3_0 hb3_1 hB22 hM21 kE
      by_cases hlt : k < s.kept.length
      · obtain ⟨ad, rfl, hc⟩ := h4 (by omega)
        have eS := ld_l (hc.ext (kE3.trans hEr)) hlt
        obtain ⟨x, hx⟩ : ∃ x, s.kept[k] = x := ⟨_, rfl⟩
        have Hx := Lib.hid hx
        have Hpv := Lib.hid (lastNo_prev s.kept (k := k) (n := s.kept[k].no))
        have Hbad := Lib.hid (fun (e : Int) (h : c.lineErr s.lines (prevNo s.kept k) s.kept[k] = e) (he : e ≠ 0) => Sheet.err_line (c := c) (s := s) Hl.out he (linesErr_bad hlt h he Hle.out))
        have Hgood := Lib.hid (fun (h : c.lineErr s.lines (prevNo s.kept k) s.kept[k] = 0) => linesErr_good hlt h Hle.out)
        obtain ⟨no, hno⟩ : ∃ no, s.kept[k].no = no := ⟨_, rfl⟩
        obtain ⟨wh, hwh⟩ : ∃ wh, s.kept[k].what = wh := ⟨_, rfl⟩
        obtain ⟨su, hsu⟩ : ∃ su, s.kept[k].sum = su := ⟨_, rfl⟩
        obtain ⟨la, hla⟩ : ∃ la, lastNo s.kept k = la := ⟨_, rfl⟩
        have Hno := Lib.hid hno; have Hwh := Lib.hid hwh; have Hsu := Lib.hid hsu; have Hla := Lib.hid hla
        rw [hno, hwh, hsu] at eS
        rw [hla] at Hbf ⊢
        clear hno hwh hsu hla h4 hc hx
        have zc : IntKind.i64.wrap ((c.things : Int) - 1) = (c.things : Int) - 1 := IntWalk.i64_in _ (by omega)
        cases p1 : inB no 1 s.lines with
        | false =>
          have Hr := Lib.hid (Hbad.out _ (Code.lineErr_no (by rw [Hno.out]; exact p1)) (by decide))
          rw [Hr.out]
          go_wp2_with (first | ((with_reducible refine q_load (d := some 28) (hl := eS) ?_ ?_); rfl) | ((with_reducible refine q_newvar (e := 99) (u := 9) (v := .agg #[.int .i64 no, .int .i64 wh, .int .i64 su]) ti99 ?_ ?_ ?_ ?_ ?_ ?_); (intro g; rfl); (intro g; rfl); rfl; rfl; (simp [Value.cells, Value.oneCell']); intro W9 g9 hE9 hB9 hg9; simp [Value.cells] at hB9; have f0 := hB9.cell 0; have f1 := hB9.cell 1; have f2 := hB9.cell 2; simp at f0 f1 f2; replace hEr := hEr.trans hE9; replace hBt := hBt.ext hE9; replace hMp := hMp.ext hE9; replace d30 := Ext.cell_some hE9 d30; replace d31 := Ext.cell_some hE9 d31; replace kFr := kFr.ext hE9; replace kMr := kMr.ext hE9) | (go_at_call 52; refine (pout_any _ _ _ _).mono ?_; rintro e w' ⟨rfl, rfl⟩))
          go_ret2
          exact RetT.no (kE3.trans hEr) (by decide)
        | true =>
          have hp1 := inB_t.1 p1
          have Hp1 := Lib.hid p1
          by_cases p2 : no ≤ la
          · have Hr := Lib.hid (Hbad.out _ (Code.lineErr_arg (by rw [Hno.out]; exact Hp1.out) (by rw [Hpv.out (by rw [Hno.out]; exact hp1.1) hk, Hno.out, Hla.out]; simpa using p2)) (by decide))
            rw [Hr.out]
            go_wp2_with (first | ((with_reducible refine q_load (d := some 28) (hl := eS) ?_ ?_); rfl) | ((with_reducible refine q_newvar (e := 99) (u := 9) (v := .agg #[.int .i64 no, .int .i64 wh, .int .i64 su]) ti99 ?_ ?_ ?_ ?_ ?_ ?_); (intro g; rfl); (intro g; rfl); rfl; rfl; (simp [Value.cells, Value.oneCell']); intro W9 g9 hE9 hB9 hg9; simp [Value.cells] at hB9; have f0 := hB9.cell 0; have f1 := hB9.cell 1; have f2 := hB9.cell 2; simp at f0 f1 f2; replace hEr := hEr.trans hE9; replace hBt := hBt.ext hE9; replace hMp := hMp.ext hE9; replace d30 := Ext.cell_some hE9 d30; replace d31 := Ext.cell_some hE9 d31; replace kFr := kFr.ext hE9; replace kMr := kMr.ext hE9) | (go_at_call 52; refine (pout_any _ _ _ _).mono ?_; rintro e w' ⟨rfl, rfl⟩))
            go_ret2
            exact RetT.no (kE3.trans hEr) (by decide)
          · have Hp2 : Hid ((prevNo s.kept k).any (fun y => decide (s.kept[k].no ≤ y)) = false) := by
              show _ = _
              rw [Hpv.out (by rw [Hno.out]; exact hp1.1) hk, Hno.out, Hla.out]; simpa using p2
            cases p3 : inB wh 0 ((c.things : Int) - 1) with
            | false =>
              have Hr := Lib.hid (Hbad.out _ (Code.lineErr_none (by rw [Hno.out]; exact Hp1.out) Hp2.out (by rw [Hwh.out]; exact p3)) (by decide))
              rw [Hr.out]
              go_wp2_with (first | ((with_reducible refine q_load (d := some 28) (hl := eS) ?_ ?_); rfl) | ((with_reducible refine q_newvar (e := 99) (u := 9) (v := .agg #[.int .i64 no, .int .i64 wh, .int .i64 su]) ti99 ?_ ?_ ?_ ?_ ?_ ?_); (intro g; rfl); (intro g; rfl); rfl; rfl; (simp [Value.cells, Value.oneCell']); intro W9 g9 hE9 hB9 hg9; simp [Value.cells] at hB9; have f0 := hB9.cell 0; have f1 := hB9.cell 1; have f2 := hB9.cell 2; simp at f0 f1 f2; replace hEr := hEr.trans hE9; replace hBt := hBt.ext hE9; replace hMp := hMp.ext hE9; replace d30 := Ext.cell_some hE9 d30; replace d31 := Ext.cell_some hE9 d31; replace kFr := kFr.ext hE9; replace kMr := kMr.ext hE9) | (go_at_call 52; refine (pout_any _ _ _ _).mono ?_; rintro e w' ⟨rfl, rfl⟩))
              refine wp_region_tree (.take 0 (.take 1 (.take 2 (.one 3 (.take 4 (.one 5 (.take 6 .nil))))))) (fun w' => w'.cell? ⟨g9, 1, none⟩ = some (.int .i64 wh)) (by kernel_rfl) (by kernel_rfl) (by kernel_rfl) (by kernel_rfl) (fun _ _ _ _ _ h => h) ?_ (fun hHeld => ?_)
              · (first | exact True.intro | ((try dsimp only); (repeat' apply And.intro) <;> first | assumption | (refine Ext.cell_some (Ext.todrew (Ext.refl _)) ?_; assumption)))
              refine t_take (i := 0) (v := ?_) (by (simp only [List.getElem?_toArray, List.getElem?_cons_succ, List.getElem?_cons_zero]); rfl) (by rfl) ?_ (by exact hHeld) ?_
              rotate_left
              · (intro wq hSw; (try dsimp only at hSw); go_simp; (try with_reducible rfl))
              (try simp only [Act.put, List.setIfInBounds_toArray, List.set_cons_zero, List.set_cons_succ])
              refine t_take (i := 1) (v := ?_) (by (simp only [List.getElem?_toArray, List.getElem?_cons_succ, List.getElem?_cons_zero]); rfl) (by rfl) ?_ (by exact hHeld) ?_
              rotate_left
              · (intro wq hSw; (try dsimp only at hSw); go_simp; (try with_reducible rfl))
              (try simp only [Act.put, List.setIfInBounds_toArray, List.set_cons_zero, List.set_cons_succ])
              refine t_take (i := 2) (v := ?_) (by (simp only [List.getElem?_toArray, List.getElem?_cons_succ, List.getElem?_cons_zero]); rfl) (by rfl) ?_ (by exact hHeld) ?_
              rotate_left
              · (intro wq hSw; (try dsimp only at hSw); go_simp; (try with_reducible rfl))
              (try simp only [Act.put, List.setIfInBounds_toArray, List.set_cons_zero, List.set_cons_succ])
              refine t_one (i := 3) (by (simp only [List.getElem?_toArray, List.getElem?_cons_succ, List.getElem?_cons_zero]); rfl) ?_
              ((refine q_call (by rfl) (pthings_any g21 fv mv c s.lines g19 _ _ (hBt.d) (kFr.d) (kMr.d) Hcb.out) (by go_simp) ?_; rintro e W44 ⟨rfl, hE44⟩; refine ⟨_, rfl, ?_⟩; have hZ := hE44.undrew; have f1' := Ext.cell_some hZ f1))
              clear hHeld; refine t_next ?_ (fun hHeld => ?_)
              · (first | exact True.intro | ((try dsimp only); (repeat' apply And.intro) <;> first | assumption | (refine Ext.cell_some (Ext.todrew (Ext.refl _)) ?_; assumption)))
              (try simp only [Act.put, List.setIfInBounds_toArray, List.set_cons_zero, List.set_cons_succ])
              refine t_take (i := 4) (v := ?_) (by (simp only [List.getElem?_toArray, List.getElem?_cons_succ, List.getElem?_cons_zero]); rfl) (by rfl) ?_ (by exact hHeld) ?_
              rotate_left
              · (intro wq hSw; (try dsimp only at hSw); go_simp; (try with_reducible rfl))
              (try simp only [Act.put, List.setIfInBounds_toArray, List.set_cons_zero, List.set_cons_succ])
              refine t_one (i := 5) (by (simp only [List.getElem?_toArray, List.getElem?_cons_succ, List.getElem?_cons_zero]); rfl) ?_
              ((refine q_call (by rfl) (pout_any wh 0 ((c.things : Int) - 1) _) (by go_simp) ?_; rintro e w' ⟨rfl, rfl⟩; refine ⟨_, rfl, ?_⟩))
              clear hHeld; refine t_next ?_ (fun hHeld => ?_)
              · (first | exact True.intro | ((try dsimp only); (repeat' apply And.intro) <;> first | assumption | (refine Ext.cell_some (Ext.todrew (Ext.refl _)) ?_; assumption)))
              (try simp only [Act.put, List.setIfInBounds_toArray, List.set_cons_zero, List.set_cons_succ])
              refine t_take (i := 6) (v := ?_) (by (simp only [List.getElem?_toArray, List.getElem?_cons_succ, List.getElem?_cons_zero]); rfl) (by rfl) ?_ (by exact hHeld) ?_
              rotate_left
              · (intro wq hSw; (try dsimp only at hSw); go_simp; (try with_reducible rfl))
              (try simp only [Act.put, List.setIfInBounds_toArray, List.set_cons_zero, List.set_cons_succ])
              refine t_done ?_
              go_wp2
              go_ret2
              exact RetT.no (kE3.trans (hEr.trans hZ)) (by decide)
            | true =>
              cases p4 : inB su 0 240 with
              | false =>
                have Hr := Lib.hid (Hbad.out _ (Code.lineErr_sum (by rw [Hno.out]; exact Hp1.out) Hp2.out (by rw [Hwh.out]; exact p3) (by rw [Hsu.out]; exact p4)) (by decide))
                rw [Hr.out]
                go_wp2_with (first | ((with_reducible refine q_load (d := some 28) (hl := eS) ?_ ?_); rfl) | ((with_reducible refine q_newvar (e := 99) (u := 9) (v := .agg #[.int .i64 no, .int .i64 wh, .int .i64 su]) ti99 ?_ ?_ ?_ ?_ ?_ ?_); (intro g; rfl); (intro g; rfl); rfl; rfl; (simp [Value.cells, Value.oneCell']); intro W9 g9 hE9 hB9 hg9; simp [Value.cells] at hB9; have f0 := hB9.cell 0; have f1 := hB9.cell 1; have f2 := hB9.cell 2; simp at f0 f1 f2; replace hEr := hEr.trans hE9; replace hBt := hBt.ext hE9; replace hMp := hMp.ext hE9; replace d30 := Ext.cell_some hE9 d30; replace d31 := Ext.cell_some hE9 d31; replace kFr := kFr.ext hE9; replace kMr := kMr.ext hE9) | (go_at_call 52; refine (pout_any _ _ _ _).mono ?_; rintro e w' ⟨rfl, rfl⟩))
                refine wp_region_tree (.take 0 (.take 1 (.take 2 (.one 3 (.take 4 (.one 5 (.take 6 .nil))))))) (fun w' => w'.cell? ⟨g9, 1, none⟩ = some (.int .i64 wh)) (by kernel_rfl) (by kernel_rfl) (by kernel_rfl) (by kernel_rfl) (fun _ _ _ _ _ h => h) ?_ (fun hHeld => ?_)
                · (first | exact True.intro | ((try dsimp only); (repeat' apply And.intro) <;> first | assumption | (refine Ext.cell_some (Ext.todrew (Ext.refl _)) ?_; assumption)))
                refine t_take (i := 0) (v := ?_) (by (simp only [List.getElem?_toArray, List.getElem?_cons_succ, List.getElem?_cons_zero]); rfl) (by rfl) ?_ (by exact hHeld) ?_
                rotate_left
                · (intro wq hSw; (try dsimp only at hSw); go_simp; (try with_reducible rfl))
                (try simp only [Act.put, List.setIfInBounds_toArray, List.set_cons_zero, List.set_cons_succ])
                refine t_take (i := 1) (v := ?_) (by (simp only [List.getElem?_toArray, List.getElem?_cons_succ, List.getElem?_cons_zero]); rfl) (by rfl) ?_ (by exact hHeld) ?_
                rotate_left
                · (intro wq hSw; (try dsimp only at hSw); go_simp; (try with_reducible rfl))
                (try simp only [Act.put, List.setIfInBounds_toArray, List.set_cons_zero, List.set_cons_succ])
                refine t_take (i := 2) (v := ?_) (by (simp only [List.getElem?_toArray, List.getElem?_cons_succ, List.getElem?_cons_zero]); rfl) (by rfl) ?_ (by exact hHeld) ?_
                rotate_left
                · (intro wq hSw; (try dsimp only at hSw); go_simp; (try with_reducible rfl))
                (try simp only [Act.put, List.setIfInBounds_toArray, List.set_cons_zero, List.set_cons_succ])
                refine t_one (i := 3) (by (simp only [List.getElem?_toArray, List.getElem?_cons_succ, List.getElem?_cons_zero]); rfl) ?_
                ((refine q_call (by rfl) (pthings_any g21 fv mv c s.lines g19 _ _ (hBt.d) (kFr.d) (kMr.d) Hcb.out) (by go_simp) ?_; rintro e W44 ⟨rfl, hE44⟩; refine ⟨_, rfl, ?_⟩; have hZ := hE44.undrew; have f1' := Ext.cell_some hZ f1))
                clear hHeld; refine t_next ?_ (fun hHeld => ?_)
                · (first | exact True.intro | ((try dsimp only); (repeat' apply And.intro) <;> first | assumption | (refine Ext.cell_some (Ext.todrew (Ext.refl _)) ?_; assumption)))
                (try simp only [Act.put, List.setIfInBounds_toArray, List.set_cons_zero, List.set_cons_succ])
                refine t_take (i := 4) (v := ?_) (by (simp only [List.getElem?_toArray, List.getElem?_cons_succ, List.getElem?_cons_zero]); rfl) (by rfl) ?_ (by exact hHeld) ?_
                rotate_left
                · (intro wq hSw; (try dsimp only at hSw); go_simp; (try with_reducible rfl))
                (try simp only [Act.put, List.setIfInBounds_toArray, List.set_cons_zero, List.set_cons_succ])
                refine t_one (i := 5) (by (simp only [List.getElem?_toArray, List.getElem?_cons_succ, List.getElem?_cons_zero]); rfl) ?_
                ((refine q_call (by rfl) (pout_any wh 0 ((c.things : Int) - 1) _) (by go_simp) ?_; rintro e w' ⟨rfl, rfl⟩; refine ⟨_, rfl, ?_⟩))
                clear hHeld; refine t_next ?_ (fun hHeld => ?_)
                · (first | exact True.intro | ((try dsimp only); (repeat' apply And.intro) <;> first | assumption | (refine Ext.cell_some (Ext.todrew (Ext.refl _)) ?_; assumption)))
                (try simp only [Act.put, List.setIfInBounds_toArray, List.set_cons_zero, List.set_cons_succ])
                refine t_take (i := 6) (v := ?_) (by (simp only [List.getElem?_toArray, List.getElem?_cons_succ, List.getElem?_cons_zero]); rfl) (by rfl) ?_ (by exact hHeld) ?_
                rotate_left
                · (intro wq hSw; (try dsimp only at hSw); go_simp; (try with_reducible rfl))
                (try simp only [Act.put, List.setIfInBounds_toArray, List.set_cons_zero, List.set_cons_succ])
                refine t_done ?_
                have f2' := Ext.cell_some hZ f2
                go_wp2_with (go_at_call 52; refine (pout_any _ _ _ _).mono ?_; rintro e w' ⟨rfl, rfl⟩)
                go_ret2
                exact RetT.no (kE3.trans (hEr.trans hZ)) (by decide)
              | true =>
                have Hok := Lib.hid (Hgood.out (Code.lineErr_ok (by rw [Hno.out]; exact Hp1.out) Hp2.out (by rw [Hwh.out]; exact p3) (by rw [Hsu.out]; exact p4)))
                go_wp2_with (first | ((with_reducible refine q_load (d := some 28) (hl := eS) ?_ ?_); rfl) | ((with_reducible refine q_newvar (e := 99) (u := 9) (v := .agg #[.int .i64 no, .int .i64 wh, .int .i64 su]) ti99 ?_ ?_ ?_ ?_ ?_ ?_); (intro g; rfl); (intro g; rfl); rfl; rfl; (simp [Value.cells, Value.oneCell']); intro W9 g9 hE9 hB9 hg9; simp [Value.cells] at hB9; have f0 := hB9.cell 0; have f1 := hB9.cell 1; have f2 := hB9.cell 2; simp at f0 f1 f2; replace hEr := hEr.trans hE9; replace hBt := hBt.ext hE9; replace hMp := hMp.ext hE9; replace d30 := Ext.cell_some hE9 d30; replace d31 := Ext.cell_some hE9 d31; replace kFr := kFr.ext hE9; replace kMr := kMr.ext hE9) | (go_at_call 52; refine (pout_any _ _ _ _).mono ?_; rintro e w' ⟨rfl, rfl⟩))
                refine wp_region_tree (.take 0 (.take 1 (.take 2 (.one 3 (.take 4 (.one 5 (.take 6 .nil))))))) (fun w' => w'.cell? ⟨g9, 1, none⟩ = some (.int .i64 wh)) (by kernel_rfl) (by kernel_rfl) (by kernel_rfl) (by kernel_rfl) (fun _ _ _ _ _ h => h) ?_ (fun hHeld => ?_)
                · (first | exact True.intro | ((try dsimp only); (repeat' apply And.intro) <;> first | assumption | (refine Ext.cell_some (Ext.todrew (Ext.refl _)) ?_; assumption)))
                refine t_take (i := 0) (v := ?_) (by (simp only [List.getElem?_toArray, List.getElem?_cons_succ, List.getElem?_cons_zero]); rfl) (by rfl) ?_ (by exact hHeld) ?_
                rotate_left
                · (intro wq hSw; (try dsimp only at hSw); go_simp; (try with_reducible rfl))
                (try simp only [Act.put, List.setIfInBounds_toArray, List.set_cons_zero, List.set_cons_succ])
                refine t_take (i := 1) (v := ?_) (by (simp only [List.getElem?_toArray, List.getElem?_cons_succ, List.getElem?_cons_zero]); rfl) (by rfl) ?_ (by exact hHeld) ?_
                rotate_left
                · (intro wq hSw; (try dsimp only at hSw); go_simp; (try with_reducible rfl))
                (try simp only [Act.put, List.setIfInBounds_toArray, List.set_cons_zero, List.set_cons_succ])
                refine t_take (i := 2) (v := ?_) (by (simp only [List.getElem?_toArray, List.getElem?_cons_succ, List.getElem?_cons_zero]); rfl) (by rfl) ?_ (by exact hHeld) ?_
                rotate_left
                · (intro wq hSw; (try dsimp only at hSw); go_simp; (try with_reducible rfl))
                (try simp only [Act.put, List.setIfInBounds_toArray, List.set_cons_zero, List.set_cons_succ])
                refine t_one (i := 3) (by (simp only [List.getElem?_toArray, List.getElem?_cons_succ, List.getElem?_cons_zero]); rfl) ?_
                ((refine q_call (by rfl) (pthings_any g21 fv mv c s.lines g19 _ _ (hBt.d) (kFr.d) (kMr.d) Hcb.out) (by go_simp) ?_; rintro e W44 ⟨rfl, hE44⟩; refine ⟨_, rfl, ?_⟩; have hZ := hE44.undrew; have f1' := Ext.cell_some hZ f1))
                clear hHeld; refine t_next ?_ (fun hHeld => ?_)
                · (first | exact True.intro | ((try dsimp only); (repeat' apply And.intro) <;> first | assumption | (refine Ext.cell_some (Ext.todrew (Ext.refl _)) ?_; assumption)))
                (try simp only [Act.put, List.setIfInBounds_toArray, List.set_cons_zero, List.set_cons_succ])
                refine t_take (i := 4) (v := ?_) (by (simp only [List.getElem?_toArray, List.getElem?_cons_succ, List.getElem?_cons_zero]); rfl) (by rfl) ?_ (by exact hHeld) ?_
                rotate_left
                · (intro wq hSw; (try dsimp only at hSw); go_simp; (try with_reducible rfl))
                (try simp only [Act.put, List.setIfInBounds_toArray, List.set_cons_zero, List.set_cons_succ])
                refine t_one (i := 5) (by (simp only [List.getElem?_toArray, List.getElem?_cons_succ, List.getElem?_cons_zero]); rfl) ?_
                ((refine q_call (by rfl) (pout_any wh 0 ((c.things : Int) - 1) _) (by go_simp) ?_; rintro e w' ⟨rfl, rfl⟩; refine ⟨_, rfl, ?_⟩))
                clear hHeld; refine t_next ?_ (fun hHeld => ?_)
                · (first | exact True.intro | ((try dsimp only); (repeat' apply And.intro) <;> first | assumption | (refine Ext.cell_some (Ext.todrew (Ext.refl _)) ?_; assumption)))
                (try simp only [Act.put, List.setIfInBounds_toArray, List.set_cons_zero, List.set_cons_succ])
                refine t_take (i := 6) (v := ?_) (by (simp only [List.getElem?_toArray, List.getElem?_cons_succ, List.getElem?_cons_zero]); rfl) (by rfl) ?_ (by exact hHeld) ?_
                rotate_left
                · (intro wq hSw; (try dsimp only at hSw); go_simp; (try with_reducible rfl))
                (try simp only [Act.put, List.setIfInBounds_toArray, List.set_cons_zero, List.set_cons_succ])
                refine t_done ?_
                have f2' := Ext.cell_some hZ f2
                go_wp2_with (go_at_call 52; refine (pout_any _ _ _ _).mono ?_; rintro e w' ⟨rfl, rfl⟩)
                have hB9z := hB9.ext hZ; have hBtz := hBt.ext hZ; have hMpz := hMp.ext hZ
                have i0 := hB9z.cell 0; have i1 := hB9z.cell 1; have i2 := hB9z.cell 2
                have it := hBtz.cell 4
                simp [tabCells] at i0 i1 i2 it
                have hne9 := hMpz.notblk hB9z
                have hnet := hMpz.notblk hBtz
                have hE3 := hEr.trans hZ
                have Habs := Lib.hid (show keptM (s.kept.take k) no = none by
                  unfold keptM
                  cases hq : keptAt (s.kept.take k) no with
                  | none => rfl
                  | some y =>
                    obtain ⟨hy1, hy2⟩ := keptAt_some hq
                    have := Hbf.out y hy1
                    omega)
                have Hkm := Lib.hid (show upd (upd (keptM (s.kept.take k)) no (.agg #[.int .i64 0, .int .i64 0, .int .i64 0])) no (.agg #[.int .i64 no, .int .i64 wh, .int .i64 su]) = keptM (s.kept.take (k + 1)) by
                  have := keptM_upd s.kept hlt (.agg #[.int .i64 0, .int .i64 0, .int .i64 0])
                  rw [Hno.out] at this
                  rw [← this]; unfold lineV; rw [Hno.out, Hwh.out, Hsu.out])
                refine wp_region_tree (.take 0 (.take 1 (.take 2 (.take 3 (.take 4 (.take 5 (.take 6 (.take 7 (.take 8 (.take 9 (.one 10 (.take 11 (.one 12 .nil))))))))))))) (fun w' => w'.cell? ⟨g9, 0, none⟩ = some (.int .i64 no) ∧ w'.cell? ⟨g9, 1, none⟩ = some (.int .i64 wh) ∧ w'.cell? ⟨g9, 2, none⟩ = some (.int .i64 su) ∧ w'.cell? ⟨g21, 4, none⟩ = some (.map (some g19))) (by kernel_rfl) (by kernel_rfl) (by kernel_rfl) (by kernel_rfl) (fun _ _ _ _ _ h => h) ?_ (fun hHeld => ?_)
                · (first | exact True.intro | ((try dsimp only); (repeat' apply And.intro) <;> first | assumption | (refine Ext.cell_some (Ext.todrew (Ext.refl _)) ?_; assumption)))
                refine t_take (i := 0) (v := ?_) (by (simp only [List.getElem?_toArray, List.getElem?_cons_succ, List.getElem?_cons_zero]); rfl) (by rfl) ?_ (by exact hHeld) ?_
                rotate_left
                · (intro wq hSw; (try dsimp only at hSw); go_simp; (try with_reducible rfl))
                (try simp only [Act.put, List.setIfInBounds_toArray, List.set_cons_zero, List.set_cons_succ])
                refine t_take (i := 1) (v := ?_) (by (simp only [List.getElem?_toArray, List.getElem?_cons_succ, List.getElem?_cons_zero]); rfl) (by rfl) ?_ (by exact hHeld) ?_
                rotate_left
                · (intro wq hSw; (try dsimp only at hSw); go_simp; (try with_reducible rfl))
                (try simp only [Act.put, List.setIfInBounds_toArray, List.set_cons_zero, List.set_cons_succ])
                refine t_take (i := 2) (v := ?_) (by (simp only [List.getElem?_toArray, List.getElem?_cons_succ, List.getElem?_cons_zero]); rfl) (by rfl) ?_ (by exact hHeld) ?_
                rotate_left
                · (intro wq hSw; (try dsimp only at hSw); go_simp; (try with_reducible rfl))
                (try simp only [Act.put, List.setIfInBounds_toArray, List.set_cons_zero, List.set_cons_succ])
                refine t_take (i := 3) (v := ?_) (by (simp only [List.getElem?_toArray, List.getElem?_cons_succ, List.getElem?_cons_zero]); rfl) (by rfl) ?_ (by exact hHeld) ?_
                rotate_left
                · (intro wq hSw; (try dsimp only at hSw); go_simp; (try with_reducible rfl))
                (try simp only [Act.put, List.setIfInBounds_toArray, List.set_cons_zero, List.set_cons_succ])
                refine t_take (i := 4) (v := ?_) (by (simp only [List.getElem?_toArray, List.getElem?_cons_succ, List.getElem?_cons_zero]); rfl) (by rfl) ?_ (by exact hHeld) ?_
                rotate_left
                · (intro wq hSw; (try dsimp only at hSw); go_simp; (try with_reducible rfl))
                (try simp only [Act.put, List.setIfInBounds_toArray, List.set_cons_zero, List.set_cons_succ])
                refine t_take (i := 5) (v := ?_) (by (simp only [List.getElem?_toArray, List.getElem?_cons_succ, List.getElem?_cons_zero]); rfl) (by rfl) ?_ (by exact hHeld) ?_
                rotate_left
                · (intro wq hSw; (try dsimp only at hSw); go_simp; (try with_reducible rfl))
                (try simp only [Act.put, List.setIfInBounds_toArray, List.set_cons_zero, List.set_cons_succ])
                refine t_take (i := 6) (v := ?_) (by (simp only [List.getElem?_toArray, List.getElem?_cons_succ, List.getElem?_cons_zero]); rfl) (by rfl) ?_ (by exact hHeld) ?_
                rotate_left
                · (intro wq hSw; (try dsimp only at hSw); go_simp; (try with_reducible rfl))
                (try simp only [Act.put, List.setIfInBounds_toArray, List.set_cons_zero, List.set_cons_succ])
                refine t_take (i := 7) (v := ?_) (by (simp only [List.getElem?_toArray, List.getElem?_cons_succ, List.getElem?_cons_zero]); rfl) (by rfl) ?_ (by exact hHeld) ?_
                rotate_left
                · (intro wq hSw; (try dsimp only at hSw); go_simp; (try with_reducible rfl))
                (try simp only [Act.put, List.setIfInBounds_toArray, List.set_cons_zero, List.set_cons_succ])
                refine t_take (i := 8) (v := .agg #[.int .i64 no, .int .i64 wh, .int .i64 su]) (by (simp only [List.getElem?_toArray, List.getElem?_cons_succ, List.getElem?_cons_zero]); rfl) (by rfl) ?_ (by exact hHeld) ?_
                · exact run_ld (by rfl) (fun W h => ld_line3 h.1 h.2.1 h.2.2.1)
                (try simp only [Act.put, List.setIfInBounds_toArray, List.set_cons_zero, List.set_cons_succ])
                refine t_take (i := 9) (v := ?_) (by (simp only [List.getElem?_toArray, List.getElem?_cons_succ, List.getElem?_cons_zero]); rfl) (by rfl) ?_ (by exact hHeld) ?_
                rotate_left
                · (intro wq hSw; (try dsimp only at hSw); go_simp; (try with_reducible rfl))
                (try simp only [Act.put, List.setIfInBounds_toArray, List.set_cons_zero, List.set_cons_succ])
                refine t_one (i := 10) (by (simp only [List.getElem?_toArray, List.getElem?_cons_succ, List.getElem?_cons_zero]); rfl) ?_
                (((with_reducible refine q_entryNew (d := some 60) intKeys Tryz.underlying109 Tryz.underlying3 (g := g19) (b := no) ?_ ?_ (show MapM ikv _ g19 (keptM (s.kept.take k)) from hMpz.ext (Ext.todrew (Ext.refl _))) (zero99 _) Habs.out ?_); rfl; rfl; intro W60 st hMe hgr60; have hB9y := (hB9z.d).grown hgr60 (fun e => hne9 (Option.some.inj e).symm); have hBty := (hBtz.d).grown hgr60 (fun e => hnet (Option.some.inj e).symm); have j0 := hB9y.cell 0; have j1 := hB9y.cell 1; have j2 := hB9y.cell 2; have jt := hBty.cell 4; simp [tabCells] at j0 j1 j2 jt; have hE4 := below_grown (hE3.todrew) hgr60 hg19 (hE3.todrew).size))
                clear hHeld; refine t_next ?_ (fun hHeld => ?_)
                · (first | exact True.intro | ((try dsimp only); (repeat' apply And.intro) <;> first | assumption | (refine Ext.cell_some (Ext.todrew (Ext.refl _)) ?_; assumption)))
                (try simp only [Act.put, List.setIfInBounds_toArray, List.set_cons_zero, List.set_cons_succ])
                refine t_take (i := 11) (v := ?_) (by (simp only [List.getElem?_toArray, List.getElem?_cons_succ, List.getElem?_cons_zero]); rfl) (by rfl) ?_ (by exact hHeld) ?_
                rotate_left
                · (intro wq hSw; (try dsimp only at hSw); go_simp; (try with_reducible rfl))
                (try simp only [Act.put, List.setIfInBounds_toArray, List.set_cons_zero, List.set_cons_succ])
                refine t_one (i := 12) (by (simp only [List.getElem?_toArray, List.getElem?_cons_succ, List.getElem?_cons_zero]); rfl) ?_
                (((with_reducible refine q_entryStore intKeys (g := g19) (b := no) (st := st) (v := .agg #[.int .i64 no, .int .i64 wh, .int .i64 su]) ?_ ?_ ?_ hMe ?_); rfl; rfl; rfl; intro W62 hM62 hgr62; rw [Hkm.out] at hM62; have hB9x := hB9y.grown hgr62 (fun e => hne9 (Option.some.inj e).symm); have hBtx := hBty.grown hgr62 (fun e => hnet (Option.some.inj e).symm); have j0 := hB9x.cell 0; have j1 := hB9x.cell 1; have j2 := hB9x.cell 2; have jt := hBtx.cell 4; simp [tabCells] at j0 j1 j2 jt; have hE5 := below_grown hE4 hgr62 hg19 hE4.size))
                clear hHeld; refine t_next ?_ (fun hHeld => ?_)
                · (first | exact True.intro | ((try dsimp only); (repeat' apply And.intro) <;> first | assumption | (refine Ext.cell_some (Ext.todrew (Ext.refl _)) ?_; assumption)))
                (try simp only [Act.put, List.setIfInBounds_toArray, List.set_cons_zero, List.set_cons_succ])
                refine t_done ?_
                (go_wp2; go_roundw; (case rel => exact ⟨hE5, k + 1, by omega, by go_num, by rw [lastNo_succ _ hlt, Hno.out], hBtx, hM62, Hok.out, by rw [lastNo_succ _ hlt, Hno.out]; exact all_take_snoc (p := fun y => y.no ≤ no) hlt (fun y hy => by have := Hbf.out y hy; omega) (by rw [Hno.out]; omega)⟩); (case measure => simp [intOf]; omega))
      · obtain rfl : k = s.kept.length := by omega
        have He := Lib.hid (linesErr_end Hle.out)
        have hMk : MapM ikv wr g19 (keptM s.kept) := by rw [List.take_length] at hMp; exact hMp
        have q9 : ¬ ((s.kept.length : Int) < s.kept.length) := by omega
        clear h4 hMp
        obtain ⟨m, hm⟩ := Int.eq_ofNat_of_zero_le (show 0 ≤ s.lines by omega)
        have Hm := Lib.hid hm
        have hm12 : m ≤ 12 := by omega
        have hlost : s.lost = lostTo s.kept m := by rw [lost_eq, hm]; simp
        have Hlost := Lib.hid hlost
        clear hlost
        go_wp2
        go_loopw [10] (fun n W => Ext W3 W ∧ ∃ k : Nat, ∃ lv : Value, k ≤ m ∧ n = .int .i64 ((k : Int) + 1) ∧ Blk W g21 111 (tabCells fv mv c s.lines g19 lv) ∧ MapM ikv W g19 (keptM s.kept) ∧ OwnI W3.heap.size W lv (lostTo s.kept k)) (fun n _ => m + 1 - (intOf n).toNat)
        case atStart => exact ⟨hEr, 0, _, by omega, rfl, hBt, hMk, OwnI.nil _ _⟩
        case round =>
          clear hBt hMk d30 d31 kFr kMr hEr
          obtain ⟨hEr, k, lv, hk, rfl, hBt, hMp, hO⟩ := hrel
          have d30 := Ext.cell_some hEr k30
          have hlen := lostTo_len s.kept k
          have it := hBt.cell 4; have il := hBt.cell 5
          simp [tabCells] at it il
          have z1 : (((k : Int) + 1) ≤ s.lines) ↔ k < m := by omega
          by_cases hlt : k < m
          · have hn := lostTo_succ s.kept k
            have q1 : ((k : Int) + 1) ≤ s.lines := by omega
            have hs := keptAt_isSome s.kept ((k : Int) + 1)
            obtain ⟨lt, hlv⟩ : ∃ u, u = lostTo s.kept k := ⟨_, rfl⟩
            have Hlv := Lib.hid hlv
            clear hlv
            cases hk2 : keptAt s.kept ((k : Int) + 1) with
            | some x =>
              have hkm : keptM s.kept ((k : Int) + 1) = some (lineV x) := by unfold keptM; rw [hk2]; rfl
              rw [hk2] at hs
              rw [if_pos (by rw [← hs]; rfl)] at hn
              have Hn := Lib.hid hn
              clear hn hs hk2 Hlv
              go_wp2_with (first | ((with_reducible refine q_look (d := some 75) intKeys Tryz.underlying109 Tryz.underlying3 (g := g19) (b := (k : Int) + 1) ?_ ?_ hMp (zero99 _) ?_); rfl; rfl; rw [hkm]; simp only [Option.getD_some, Option.isSome_some]) | ((with_reducible refine q_newvar (e := 99) (u := 11) (v := lineV x) ti99 ?_ ?_ ?_ ?_ ?_ ?_); (intro g; rfl); (intro g; rfl); rfl; rfl; (simp [Value.cells, Value.oneCell', lineV]); intro W11 g11 hE11 hB11 hg11; replace hEr := hEr.trans hE11; replace hBt := hBt.ext hE11; replace hMp := hMp.ext hE11; replace hO := hO.ext hE11))
              go_roundw
              case rel => exact ⟨hEr, k + 1, lv, by omega, by go_num, hBt, hMp, by rw [Hn.out]; exact hO⟩
              case measure => simp [intOf]; omega
            | none =>
              have hkm : keptM s.kept ((k : Int) + 1) = none := by unfold keptM; rw [hk2]; rfl
              rw [hk2] at hs
              rw [if_neg (by rw [← hs]; decide)] at hn
              have Hn := Lib.hid hn
              clear hn hs hk2 Hlv
              go_wp2_with (first | ((with_reducible refine q_look (d := some 75) intKeys Tryz.underlying109 Tryz.underlying3 (g := g19) (b := (k : Int) + 1) ?_ ?_ hMp (zero99 _) ?_); rfl; rfl; rw [hkm]; simp only [Option.getD_none, Option.isSome_none]) | ((with_reducible refine q_newvar (e := 99) (u := 11) (v := .agg #[.int .i64 0, .int .i64 0, .int .i64 0]) ti99 ?_ ?_ ?_ ?_ ?_ ?_); (intro g; rfl); (intro g; rfl); rfl; rfl; (simp [Value.cells, Value.oneCell']); intro W11 g11 hE11 hB11 hg11; replace hEr := hEr.trans hE11; replace hBt := hBt.ext hE11; replace hMp := hMp.ext hE11; replace hO := hO.ext hE11; replace it := Ext.cell_some hE11 it; replace il := Ext.cell_some hE11 il) | ((with_reducible refine q_bsI (d := some 86) (n := (k : Int) + 1) ?_ ?_); rfl; intro W12 g12 hE12 hB12 hg12; replace hEr := hEr.trans hE12; replace hBt := hBt.ext hE12; replace hMp := hMp.ext hE12; replace hO := hO.ext hE12; replace it := Ext.cell_some hE12 it; replace il := Ext.cell_some hE12 il) | ((with_reducible refine q_appI (d := some 87) rfl hO rfl hB12 (by omega) hEr.size ?_); intro v' W13 hO' hmono hgr; have hcl := own_cells hO'; have hsz6 : 5 < (tabCells fv mv c s.lines g19 lv).size := (by simp [tabCells]); have hne := own_ne hO hBt (.inl (by decide)); replace hEr := hmono _ hEr; replace hBt := hBt.grown hgr (fun e => hne e.symm); replace hMp := hMp.grown hgr (map_ne hMp hO)) | ((with_reducible refine q_store1 (t := 26) (g := g21) (off := 5) (v := v') ?_ ?_ hBt size26 hcl.1 hsz6 hcl.2 ?_); rfl; rfl; intro W89 hB89 hgr89; have hne89 := own_ne hO' hBt (.inl (by decide)); have hnm89 := hMp.notblk hBt; replace hEr := below_grown hEr hgr89 (Nat.le_trans hE19.size hg21) hEr.size; replace hMp := hMp.grown hgr89 (fun e => hnm89 (Option.some.inj e)); replace hO' := own_grown hO' hgr89 hne89))
              go_roundw
              case rel => exact ⟨hEr, k + 1, v', by omega, by go_num, by simpa [tabCells] using hB89, hMp, by rw [Hn.out]; exact hO'⟩
              case measure => simp [intOf]; omega
          · obtain rfl : k = m := by omega
            have q1 : ¬ (((k : Int) + 1) ≤ s.lines) := by omega
            have hI := hO.ints
            obtain ⟨Al, cl, rfl, hl5, hl6, _, _⟩ := hI
            have hb1 : w.heap.size ≤ g19 := Nat.le_trans hE.size hg19
            have hb2 : w.heap.size ≤ g21 := Nat.le_trans hE.size (Nat.le_trans hE19.size hg21)
            by_cases h3 : (lostTo s.kept k).length ≤ 3
            · have q2 : ¬ (3 < ((lostTo s.kept k).length : Int)) := by omega
              have Hr := Lib.hid (Sheet.err_ok Hl.out He.out (by rw [Hlost.out]; exact h3))
              clear hlen
              go_wp2
              go_ret2
              rw [Hr.out]
              exact ⟨_, rfl, kE3.trans hEr, fun h => absurd rfl h, fun _ => ⟨g21, g19, _, rfl, hb2, hb1, hBt, hMp, by rw [Hlost.out]; exact hO.base hE.size⟩⟩
            · have q2 : (3 < ((lostTo s.kept k).length : Int)) := by omega
              have Hr := Lib.hid (Sheet.err_long Hl.out He.out (by rw [Hlost.out]; exact h3))
              clear hlen
              go_wp2
              go_ret2
              rw [Hr.out]
              exact RetT.no (kE3.trans hEr) (by decide)
end Go.Bp
end
section
set_option maxRecDepth 100000
set_option linter.unusedSimpArgs false
set_option linter.unusedVariables false
namespace Go.Bp
open Go.RowKit Go.Proofs
theorem TabOk.base {B B' : Nat} {w : World} {v : Value} {c : Code} {s : Sheet} {gt gm : Nat} {fv mv lv : Value} (h : TabOk B w v c s gt gm fv mv lv) (hB : B' ≤ B) : TabOk B' w v c s gt gm fv mv lv :=
  ⟨h.eq, Nat.le_trans hB h.b1, Nat.le_trans hB h.b2, h.blk, h.map, h.lost.base hB⟩
theorem TabOk.ext {B : Nat} {w w' : World} {v : Value} {c : Code} {s : Sheet} {gt gm : Nat} {fv mv lv : Value} (h : TabOk B w v c s gt gm fv mv lv) (e : Ext w w') : TabOk B w' v c s gt gm fv mv lv :=
  ⟨h.eq, h.b1, h.b2, h.blk.ext e, h.map.ext e, h.lost.ext e⟩
set_option maxHeartbeats 2000000 in
theorem popen_any (fv mv sv : Value) (c : Code) (s : Sheet) (w : World) (hF : Faults w fv c.faults) (hM : Strs w mv c.man) (hW : c.wf) (hsv : SheetV w sv s) :
    Calls Tryz.prog 72 #[.agg #[fv, mv, .int .i64 c.all], sv] w (RetT w c s fv mv (s.asked c)) := by
  obtain ⟨kv, rfl, hK⟩ := hsv
  have hE := Ext.refl w
  have HW := Lib.hid hW
  clear hW
  by_cases hc : c.check.2.2 = 0
  · have Ho := Lib.hid (Code.ok_of_check hc)
    have q1 : (c.check.2.2 != 0) = false := by simp [hc]
    have Hr := Lib.hid (Sheet.asked_s (s := s) hc)
    clear hc
    go_enter Tryz.func72, Tryz.ntmps72
    go_wp2_with (first | (go_at_call 17; ((with_reducible refine (PCheck_any _ c _ (by exact CodeV.of hF hM HW.out)).mono ?_); rintro e Wc1 ⟨rfl, hEc1⟩; (try replace hEc1 := Ext.undrew hEc1); (try replace hE := hE.trans hEc1); (try replace hF := hF.ext hEc1); (try replace hM := hM.ext hEc1); (try replace hK := hK.ext hEc1); (try replace hB2 := hB2.ext hEc1); (try replace hB3 := hB3.ext hEc1); (try replace hb2_0 := Ext.cell_some hEc1 hb2_0); (try replace hb2_1 := Ext.cell_some hEc1 hb2_1); (try replace hb2_2 := Ext.cell_some hEc1 hb2_2); (try replace hb3_0 := Ext.cell_some hEc1 hb3_0); (try replace hb3_1 := Ext.cell_some hEc1 hb3_1))) | ((go_at_call 94; ((with_reducible refine (psee_any _ _ _ c s _ (by exact hF) (by exact hM) (by exact SheetV.of hK) Ho.out).mono ?_)); rintro e W94 ⟨v94, rfl, hE94, hN94, hT94⟩)) | ((with_reducible refine q_box (d := some 2) ?_); intro W2 g2 hE2 hB2 hg2; simp [Act.eval, Act.put, Value.cells] at hB2; (try replace hE := hE.trans hE2); (try replace hF := hF.ext hE2); (try replace hM := hM.ext hE2); (try replace hK := hK.ext hE2); (try replace hB2 := hB2.ext hE2); (try replace hB3 := hB3.ext hE2); (try replace hb2_0 := Ext.cell_some hE2 hb2_0); (try replace hb2_1 := Ext.cell_some hE2 hb2_1); (try replace hb2_2 := Ext.cell_some hE2 hb2_2); (try replace hb3_0 := Ext.cell_some hE2 hb3_0); (try replace hb3_1 := Ext.cell_some hE2 hb3_1); have hb2_0 := hB2.cell 0; have hb2_1 := hB2.cell 1; have hb2_2 := hB2.cell 2; simp at hb2_0 hb2_1 hb2_2; clear hE2) | ((with_reducible refine q_box (d := some 3) ?_); intro W3 g3 hE3 hB3 hg3; simp [Act.eval, Act.put, Value.cells] at hB3; (try replace hE := hE.trans hE3); (try replace hF := hF.ext hE3); (try replace hM := hM.ext hE3); (try replace hK := hK.ext hE3); (try replace hB2 := hB2.ext hE3); (try replace hB3 := hB3.ext hE3); (try replace hb2_0 := Ext.cell_some hE3 hb2_0); (try replace hb2_1 := Ext.cell_some hE3 hb2_1); (try replace hb2_2 := Ext.cell_some hE3 hb2_2); (try replace hb3_0 := Ext.cell_some hE3 hb3_0); (try replace hb3_1 := Ext.cell_some hE3 hb3_1); have hb3_0 := hB3.cell 0; have hb3_1 := hB3.cell 1; simp at hb3_0 hb3_1; clear hE3))
    go_ret2
    rw [Hr.out]
    exact ⟨_, rfl, hE.trans hE94, hN94, fun h => by obtain ⟨gt, gm, lv, h⟩ := hT94 h; exact ⟨gt, gm, lv, h.base hE.size⟩⟩
  · have q1 : (c.check.2.2 != 0) = true := by simp [hc]
    have Hr := Lib.hid (Sheet.asked_e (s := s) hc)
    have Hne := Lib.hid hc
    clear hc
    go_enter Tryz.func72, Tryz.ntmps72
    go_wp2_with (first | (go_at_call 17; ((with_reducible refine (PCheck_any _ c _ (by exact CodeV.of hF hM HW.out)).mono ?_); rintro e Wc2 ⟨rfl, hEc2⟩; (try replace hEc2 := Ext.undrew hEc2); (try replace hE := hE.trans hEc2); (try replace hF := hF.ext hEc2); (try replace hM := hM.ext hEc2); (try replace hK := hK.ext hEc2); (try replace hB2 := hB2.ext hEc2); (try replace hB3 := hB3.ext hEc2); (try replace hb2_0 := Ext.cell_some hEc2 hb2_0); (try replace hb2_1 := Ext.cell_some hEc2 hb2_1); (try replace hb2_2 := Ext.cell_some hEc2 hb2_2); (try replace hb3_0 := Ext.cell_some hEc2 hb3_0); (try replace hb3_1 := Ext.cell_some hEc2 hb3_1))) | ((with_reducible refine q_box (d := some 2) ?_); intro W2 g2 hE2 hB2 hg2; simp [Act.eval, Act.put, Value.cells] at hB2; (try replace hE := hE.trans hE2); (try replace hF := hF.ext hE2); (try replace hM := hM.ext hE2); (try replace hK := hK.ext hE2); (try replace hB2 := hB2.ext hE2); (try replace hB3 := hB3.ext hE2); (try replace hb2_0 := Ext.cell_some hE2 hb2_0); (try replace hb2_1 := Ext.cell_some hE2 hb2_1); (try replace hb2_2 := Ext.cell_some hE2 hb2_2); (try replace hb3_0 := Ext.cell_some hE2 hb3_0); (try replace hb3_1 := Ext.cell_some hE2 hb3_1); have hb2_0 := hB2.cell 0; have hb2_1 := hB2.cell 1; have hb2_2 := hB2.cell 2; simp at hb2_0 hb2_1 hb2_2; clear hE2) | ((with_reducible refine q_box (d := some 3) ?_); intro W3 g3 hE3 hB3 hg3; simp [Act.eval, Act.put, Value.cells] at hB3; (try replace hE := hE.trans hE3); (try replace hF := hF.ext hE3); (try replace hM := hM.ext hE3); (try replace hK := hK.ext hE3); (try replace hB2 := hB2.ext hE3); (try replace hB3 := hB3.ext hE3); (try replace hb2_0 := Ext.cell_some hE3 hb2_0); (try replace hb2_1 := Ext.cell_some hE3 hb2_1); (try replace hb2_2 := Ext.cell_some hE3 hb2_2); (try replace hb3_0 := Ext.cell_some hE3 hb3_0); (try replace hb3_1 := Ext.cell_some hE3 hb3_1); have hb3_0 := hB3.cell 0; have hb3_1 := hB3.cell 1; simp at hb3_0 hb3_1; clear hE3))
    go_ret2
    rw [Hr.out]
    exact RetT.no hE Hne.out
end Go.Bp
end
section
set_option maxRecDepth 100000
set_option linter.unusedSimpArgs false
set_option linter.unusedVariables false
namespace Go.Bp
open Go.RowKit Go.Proofs
section
variable {ops : Array Oper} {Q : Exit → Act → World → Prop} {a : Act} {w : World} {rest : List Oper}
variable {d : Option Tmp} {ty : TypeId} {pos : String} {after : Array Edge}
theorem OwnI.pop {B : Nat} {w : World} {A : Option Addr} {cp : Nat} {xs : List Int} {x : Int} (h : OwnI B w (.slice A (xs.length + 1) cp) (xs ++ [x])) : OwnI B w (.slice A xs.length cp) xs := by
  unfold OwnI at h
  rcases h.2 with ⟨h0, _⟩ | ⟨g, cap, cur, hv, _⟩
  · cases h0
  · injection hv with h1 h2 h3
    subst h1; subst h3
    have e : encI (xs ++ [x]) = encI xs ++ [.int .i64 x] := by simp [encI]
    have hl : (xs ++ [x]).length = xs.length + 1 := by simp
    rw [hl, e] at h
    exact ownsRow_pop (n := xs.length) (size := 1) (by simp [encI]) h
/-- 'xs[:len(xs)-1]'. -/
theorem q_popI {x y : Operand} {B : Nat} {v : Value} {xs : List Int} {z : Int} (hx : a.eval x = v) (hO : OwnI B w v (xs ++ [z])) (hy : a.eval y = .int .i64 xs.length)
    (kk : ∀ u, OwnI B w u xs → u.ownBlock = v.ownBlock → wpList Tryz.prog ops Q rest (a.put d u) w) :
    wpList Tryz.prog ops Q (⟨d, .slice 26 x none (some y) none, ty, pos, after, none⟩ :: rest) a w := by
  have hO1 := hO
  rcases hO.2 with ⟨_, h0⟩ | ⟨g, cap, cur, hv, hg, hh, hn, hcap, hsz, htake⟩
  · simp at h0
  · have hl : (xs ++ [z]).length = xs.length + 1 := by simp
    rw [hl] at hv hn
    subst hv
    unfold maxLen at hcap
    have hp := OwnI.pop hO1
    refine wpList_plain rfl fun K hK => ?_
    have hr : (execOp a.eval (⟨d, .slice 26 x none (some y) none, ty, pos, after, none⟩ : Oper)).run Tryz.prog w = .ok (.value (.slice (some ⟨g, 0, none⟩) xs.length cap)) w := by
      have g1 : (0 : Int) ≤ xs.length := by omega
      have g2 : (xs.length : Int) ≤ cap := by omega
      simp [execOp, hx, hy, asIntOf, Instr.sliceAt, Instr.slice, Instr.sliceBounds, Instr.sliceBound, run_underlying Tryz.underlying26, g1, g2, Result.andThen]
      rw [if_pos (by omega)]
      simp [Addr.add]
    unfold Oper.wp
    rw [hr]
    exact hK _ _ (kk _ hp rfl)
end
/-- From W to W' the blocks from n0 on lie as they lay, but gt and v's row; v' is the row now. -/
structure Stay (n0 gt : Nat) (v : Value) (W W' : World) (v' : Value) : Prop where
  size : W.heap.size ≤ W'.heap.size
  block : ∀ k, n0 ≤ k → k < W.heap.size → k ≠ gt → v.ownBlock ≠ some k → W'.heap[k]? = W.heap[k]?
  own : v'.ownBlock = v.ownBlock ∨ ∃ k, v'.ownBlock = some k ∧ W.heap.size ≤ k
theorem Stay.refl (n0 gt : Nat) (v : Value) (W : World) : Stay n0 gt v W W v := ⟨Nat.le_refl _, fun _ _ _ _ _ => rfl, .inl rfl⟩
theorem Stay.trans {n0 gt : Nat} {v v' v'' : Value} {X Y Z : World} (h : Stay n0 gt v X Y v') (k : Stay n0 gt v' Y Z v'') : Stay n0 gt v X Z v'' := by
  refine ⟨Nat.le_trans h.size k.size, fun i h1 h2 h3 h4 => ?_, ?_⟩
  · refine (k.block i h1 (Nat.lt_of_lt_of_le h2 h.size) h3 ?_).trans (h.block i h1 h2 h3 h4)
    rcases h.own with e | ⟨j, e, hj⟩
    · rw [e]; exact h4
    · rw [e]; intro e2; injection e2; omega
  · rcases k.own with e | ⟨j, e, hj⟩
    · rw [e]; exact h.own
    · exact .inr ⟨j, e, Nat.le_trans h.size hj⟩
theorem Stay.up {n0 gt : Nat} {v : Value} {X Y : World} (h : Up n0 X Y) : Stay n0 gt v X Y v := ⟨h.size, fun k h1 h2 _ _ => h.block k h1 h2, .inl rfl⟩
theorem Stay.ofExt {n0 gt : Nat} {v : Value} {X Y : World} (h : Ext X Y) : Stay n0 gt v X Y v := Stay.up (Up.ofExt h)
/-- A store into gt. -/
theorem Stay.store {n0 gt : Nat} {v v' v'' : Value} {X Y Z : World} (h : Stay n0 gt v X Y v') (hg : Y.grownBy Z (some gt)) (ho : v''.ownBlock = v'.ownBlock ∨ v''.ownBlock = some Y.heap.size) : Stay n0 gt v X Z v'' := by
  refine h.trans ⟨hg.size, fun k _ hk hne _ => hg.block k hk (fun e => hne (Option.some.inj e)), ?_⟩
  rcases ho with e | e
  · exact .inl e
  · exact .inr ⟨_, e, Nat.le_refl _⟩
theorem Stay.blk {n0 gt g : Nat} {v v' : Value} {X Y : World} {t : TypeId} {cs : Array Value} (h : Stay n0 gt v X Y v') (hb : Blk X g t cs) (h0 : n0 ≤ g) (hg : g ≠ gt) (hv : v.ownBlock ≠ some g) : Blk Y g t cs :=
  (h.block g h0 hb.lt hg hv).trans hb
/-- What the search reads, and what it keeps for itself. -/
structure Srch (n0 gt gy gp gb : Nat) (l : Nat) (w : World) (tv : Value) (p : List Int) : Prop where
  test : Blk w gt 26 #[tv]
  own : OwnI n0 w tv p
  yb : Blk w gy 91 #[.func (.yield l) #[] #[]]
  pl : Blk w gp 97 #[.func (.func 108) #[] #[.pointer (some ⟨gt, 0, none⟩), .pointer (some ⟨gb, 0, none⟩), .pointer (some ⟨gy, 0, none⟩), .pointer (some ⟨gp, 0, none⟩)]]
/-- What it hands out. -/
def GivT (m : Nat) (c : Code) (x : Value × List Int) (w : World) : Prop := IntB w x.1 x.2 ∧ x.2.length = m ∧ ∀ y ∈ x.2, 0 ≤ y ∧ y < c.things
/-- The tablet, below. -/
def DtT (gb gv gm : Nat) (fv mv lv : Value) (c : Code) (s : Sheet) (A : World) : Prop :=
  A.cell? ⟨gb, 0, none⟩ = some (.pointer (some ⟨gv, 0, none⟩)) ∧ Blk A gv 111 (tabCells fv mv c s.lines gm lv) ∧ MapM ikv A gm (keptM s.kept) ∧ Faults A fv c.faults ∧ Strs A mv c.man
def YieldsI (l n0 N m : Nat) (c : Code) (J Jx : List (Value × List Int) → World → Prop) : Prop :=
  ∀ pre x W1, J pre W1 → GivT m c x W1 → pre.length < N → n0 ≤ W1.heap.size → YieldAt Fence.wide 0 Tryz.prog l #[x.1] W1 fun e W' =>
      (e = .returned (.bool true) ∧ J (pre ++ [x]) W' ∧ Up n0 W1 W') ∨ (e = .returned (.bool false) ∧ Jx (pre ++ [x]) W')
set_option maxHeartbeats 3000000 in
theorem psearch_end (n0 gt gy gp gb gv gm l N m : Nat) (fv mv lv tv : Value) (c : Code) (s : Sheet) (p : List Int) (sum : Int) (J Jx : List (Value × List Int) → World → Prop) (pre : List (Value × List Int)) (W : World)
    (hD : ∀ s' A, J s' A → DtT gb gv gm fv mv lv c s A) (hJs : ∀ s A B, J s A → Below n0 A B → J s B) (hY : YieldsI l n0 N m c J Jx) (hm : s.lines = m) (hp : p.length = m) (hpt : ∀ y ∈ p, 0 ≤ y ∧ y < c.things) (hS : Srch n0 gt gy gp gb l W tv p) (hJ : J pre W) (hN : pre.length < N) (hn0 : n0 ≤ W.heap.size) :
    Calls Tryz.prog 108 #[.int .i64 sum, .pointer (some ⟨gt, 0, none⟩), .pointer (some ⟨gb, 0, none⟩), .pointer (some ⟨gy, 0, none⟩), .pointer (some ⟨gp, 0, none⟩)] W fun e W' =>
      (e = .returned (.bool true) ∧ J (pre ++ [(tv, p)]) W' ∧ Up n0 W W') ∨ (e = .returned (.bool false) ∧ Jx (pre ++ [(tv, p)]) W') := by
  obtain ⟨db, dt, _, _, _⟩ := hD pre W hJ
  have dl := dt.cell 3
  simp [tabCells] at dl
  have ct := hS.test.cell 0; have cy := hS.yb.cell 0
  simp at ct cy
  have hI := hS.own.ints
  have hIB := IntB.of_own hS.own
  subst hp
  have hI2 := hI
  obtain ⟨A, cp, htv, _, _, _, _⟩ := hI2
  subst htv
  have HyD : ∀ nq, Hid (YieldAt Fence.wide 0 Tryz.prog l #[.slice A p.length cp] (W.drewN nq) fun e W' =>
      (e = .returned (.bool true) ∧ J (pre ++ [(.slice A p.length cp, p)]) W' ∧ Up n0 W W') ∨ (e = .returned (.bool false) ∧ Jx (pre ++ [(.slice A p.length cp, p)]) W')) := by
    intro nq
    have hx : Ext W (W.drewN nq) := (Ext.refl W).drewN nq
    refine YieldAt.mono (hY pre (.slice A p.length cp, p) _ (hJs _ _ _ hJ (hx.mono hn0)) ⟨hIB.ext hx, rfl, hpt⟩ hN (Nat.le_trans hn0 hx.size)) fun e W' h => ?_
    rcases h with ⟨h1, h2, h3⟩ | h
    · exact .inl ⟨h1, h2, (Up.ofExt hx).trans h3⟩
    · exact .inr h
  have q1 : ((p.length : Int)) = s.lines := by omega
  clear hD hY hJ hI hIB hm hpt
  go_enter Tryz.func108, Tryz.ntmps108
  obtain ⟨hc, hChid⟩ : ∃ f : Nat → Array Oper → Bool → Go.Code, f = Go.Code.region := ⟨_, rfl⟩
  rw [show Go.Code.region 2 = hc 2 by rw [hChid]]
  go_wp2
  refine wp_region_quiet_lit (by kernel_rfl) (by kernel_rfl) ?_
  repeat (any_goals (first | go_big_quiet_step (fail) | quiet_step (fail)))
  refine wpQuiet_nil ?_
  intro _ hw'
  obtain ⟨nq, hw''⟩ := hw'
  subst hw''
  go_wp2
  · subst hChid
    have hy := (HyD nq).out
    obtain ⟨fn, tmps, assign, body, hy, hR⟩ := hy
    refine (wpIn_wide (n := 1)).1 ?_
    gi_wp2_with (refine hR.mono ?_; clear hR; rintro e W2 (⟨rfl, h2⟩ | ⟨rfl, h2⟩))
    all_goals
      go_wp2
      go_ret
    · exact .inl ⟨rfl, h2⟩
    · exact .inr ⟨rfl, h2⟩
end Go.Bp
end
section
set_option maxRecDepth 100000
set_option linter.unusedSimpArgs false
set_option linter.unusedVariables false
namespace Go.Bp
open Go.RowKit Go.Proofs
section
variable {ops : Array Oper} {Q : Exit → Act → World → Prop} {a : Act} {w : World} {rest : List Oper}
variable {d : Option Tmp} {ty : TypeId} {pos : String} {after : Array Edge}
theorem q_appIo {s x : Operand} {B g : Nat} {v : Value} {xs : List Int} {n : Int} (hs : a.eval s = v) (hO : OwnI B w v xs) (hx : a.eval x = .slice (some ⟨g, 0, none⟩) 1 1) (hb : Blk w g 3 #[.int .i64 n]) (hlen : xs.length ≤ 1000000000) (hB : B ≤ w.heap.size)
    (k : ∀ v' W, OwnI B W v' (xs ++ [n]) → w.grownBy W v.ownBlock → (v'.ownBlock = v.ownBlock ∨ v'.ownBlock = some w.heap.size) → wpList Tryz.prog ops Q rest (a.put d v') W) :
    wpList Tryz.prog ops Q (⟨d, .call { callee := .builtin .append, args := #[s, x], argTypes := #[26, 26] }, ty, pos, after, none⟩ :: rest) a w := by
  refine q_append Tryz.underlying26 ti3 rfl (by decide) hs hO hx (fun _ => ⟨_, rfl, hb.cells⟩) (by simp) (by simp [Value.oneCell']) (by omega) (by unfold maxLen; omega) hB ?_
  intro v' W h1 h2 h3
  refine k v' W ?_ h2 h3
  unfold OwnI
  simpa [encI] using h1
end
theorem run_lk {S : World → Prop} {a : Act} {d : Option Tmp} {ty : TypeId} {pos : String} {after : Array Edge} {x y : Operand} {g : Nat} {b : Int} {m : Int → Option Value} {v : Value} (hx : a.eval x = .map (some g)) (hy : a.eval y = .int .i64 b) (hl : ∀ W, S W → MapM ikv W g m)
    (hv : .tuple #[(m b).getD (.agg #[.int .i64 0, .int .i64 0, .int .i64 0]), .bool (m b).isSome] = v) : ∀ W, S W → (execOp a.eval (⟨d, .lookup 109 x y true, ty, pos, after, none⟩ : Oper)).run Tryz.prog W = .ok (.value v) W := by
  intro W h
  have := run_look intKeys Tryz.underlying109 Tryz.underlying3 (hl W h) b (zero99 W)
  simp [execOp, hx, hy, this, Result.andThen, hv]
theorem Srch.ext {n0 gt gy gp gb l : Nat} {w w' : World} {tv : Value} {p : List Int} (h : Srch n0 gt gy gp gb l w tv p) (e : Ext w w') : Srch n0 gt gy gp gb l w' tv p := ⟨h.test.ext e, h.own.ext e, h.yb.ext e, h.pl.ext e⟩
theorem Stay.row {n0 gt : Nat} {v v' v'' : Value} {X Y Z : World} (h : Stay n0 gt v X Y v') (hg : Y.grownBy Z v'.ownBlock) (ho : v''.ownBlock = v'.ownBlock ∨ v''.ownBlock = some Y.heap.size) : Stay n0 gt v X Z v'' := by
  refine h.trans ⟨hg.size, fun k _ hk _ hne => hg.block k hk (fun e => hne e.symm), ?_⟩
  rcases ho with e | e
  · exact .inl e
  · exact .inr ⟨_, e, Nat.le_refl _⟩
theorem pre_len {α : Type} {a b : List α} (h : a <+: b) : a.length ≤ b.length := h.length_le
theorem dfsTo_pre (c : Code) (l : List Line) (r : Nat) (p : List Int) : ∀ {k m : Nat}, k ≤ m → dfsTo c l r p k <+: dfsTo c l r p m
  | k, 0, h => by obtain rfl : k = 0 := by omega
                  exact List.prefix_refl _
  | k, m + 1, h => by
    by_cases e : k = m + 1
    · subst e; exact List.prefix_refl _
    · exact (dfsTo_pre c l r p (show k ≤ m by omega)).trans (by rw [dfsTo_succ]; exact List.prefix_append _ _)
/-- What the lookup says of the line that comes next. -/
theorem line_at (c : Code) (s : Sheet) (p : List Int) : ∃ (xn xw xs : Int) (b : Bool), Value.tuple #[(keptM s.kept ((p.length : Int) + 1)).getD (.agg #[.int .i64 0, .int .i64 0, .int .i64 0]), .bool (keptM s.kept ((p.length : Int) + 1)).isSome] = .tuple #[.agg #[.int .i64 xn, .int .i64 xw, .int .i64 xs], .bool b] ∧
    ∀ w, goesOn c s.kept p w = (!b || (decide (w = xw) && decide (c.total (p ++ [w]) = xs))) := by
  unfold keptM goesOn
  cases h : keptAt s.kept ((p.length : Int) + 1) with
  | none => exact ⟨0, 0, 0, false, by simp, by simp⟩
  | some x => exact ⟨x.no, x.what, x.sum, true, by simp [lineV], by simp⟩
theorem blk_ne {w : World} {g h : Nat} {t u : TypeId} {cs ds : Array Value} (a : Blk w g t cs) (b : Blk w h u ds) (hne : t ≠ u) : g ≠ h := by
  rintro rfl
  unfold Blk at a b
  rw [a] at b; injection b with b; injection b with _ e; exact hne e
theorem total_sn (c : Code) (p : List Int) (w : Int) : c.total (p ++ [w]) = c.total p + c.pts w := by simp [Code.total]
set_option maxHeartbeats 8000000 in
theorem psearch_any (n0 gt gy gp gb gv gm l N m : Nat) (fv mv lv : Value) (c : Code) (s : Sheet) (J Jx : List (Value × List Int) → World → Prop)
    (ho : c.Ok) (hD : ∀ s' A, J s' A → DtT gb gv gm fv mv lv c s A) (hJs : ∀ s A B, J s A → Below n0 A B → J s B) (hY : YieldsI l n0 N m c J Jx) (hm : s.lines = m) (hm12 : m ≤ 12) (hgt : n0 ≤ gt) (hgy : n0 ≤ gy) (hgp : n0 ≤ gp) :
    ∀ (r : Nat) (p : List Int) (tv : Value) (pre : List (Value × List Int)) (W : World), p.length + r = m → (∀ y ∈ p, 0 ≤ y ∧ y < c.things) → Srch n0 gt gy gp gb l W tv p → J pre W → pre.length + (dfs c s.kept r p).length ≤ N → n0 ≤ W.heap.size →
    Calls Tryz.prog 108 #[.int .i64 (c.total p), .pointer (some ⟨gt, 0, none⟩), .pointer (some ⟨gb, 0, none⟩), .pointer (some ⟨gy, 0, none⟩), .pointer (some ⟨gp, 0, none⟩)] W fun e W' =>
      (e = .returned (.bool true) ∧ ∃ q tv', q.map Prod.snd = dfs c s.kept r p ∧ J (pre ++ q) W' ∧ Srch n0 gt gy gp gb l W' tv' p ∧ Stay n0 gt tv W W' tv') ∨
      (e = .returned (.bool false) ∧ ∃ q, q.map Prod.snd <+: dfs c s.kept r p ∧ Jx (pre ++ q) W') := by
  intro r
  induction r with
  | zero =>
    intro p tv pre W hp hpt hS hJ hN hn0
    refine (psearch_end n0 gt gy gp gb gv gm l N m fv mv lv tv c s p _ J Jx pre W hD hJs hY hm (by omega) hpt hS hJ (by simp [dfs] at hN; omega) hn0).mono ?_
    rintro e W' (⟨rfl, h1, h2⟩ | ⟨rfl, h1⟩)
    · refine .inl ⟨rfl, [(tv, p)], tv, by simp [dfs], h1, ?_, Stay.up h2⟩
      have hb := fun {g t cs} (h : Blk W g t cs) (h0 : n0 ≤ g) => (show Blk W' g t cs from (h2.block g h0 h.lt).trans h)
      refine ⟨hb hS.test hgt, ?_, hb hS.yb hgy, hb hS.pl hgp⟩
      have ho := hS.own
      refine ⟨ho.1, ?_⟩
      rcases ho.2 with h | ⟨g, cap, cur, h3, h4, h5, h6⟩
      · exact .inl h
      · exact .inr ⟨g, cap, cur, h3, h4, (h2.block g h4 (Array.getElem?_eq_some_iff.1 h5).1).trans h5, h6⟩
    · exact .inr ⟨rfl, [(tv, p)], by simp [dfs], h1⟩
  | succ r ih =>
    intro p tv pre W hp hpt hS hJ hN hn0
    have hDt := hD pre W hJ
    obtain ⟨db, dt, dm, dF, dM⟩ := hDt
    have dl := dt.cell 3; have d4 := dt.cell 4
    simp [tabCells] at dl d4
    have ct := hS.test.cell 0
    simp at ct
    have hI := hS.own.ints
    obtain ⟨A, cp, htv, t1, t2, _, _⟩ := hI
    subst htv
    obtain ⟨xn, xw, xs, b, hlk, hgo⟩ := line_at c s p
    have Hlk := Lib.hid hlk; have Hgo := Lib.hid hgo
    have q1 : ¬ ((p.length : Int) = s.lines) := by omega
    have Ho := Lib.hid ho
    have Hcb := Lib.hid (show c.faults.length ≤ 1000000 ∧ c.man.length ≤ 1000000 from ⟨by have := ho.nf2; omega, by have := ho.nm; omega⟩)
    have hp12 : p.length ≤ 12 := by omega
    have Hp := Lib.hid hp; have Hpt := Lib.hid hpt; have HN := Lib.hid hN; have Hih := Lib.hid ih; have HJ := Lib.hid hJ; have HD := Lib.hid hD; have HJs := Lib.hid hJs; have Hm := Lib.hid hm
    have z0 : IntKind.i64.wrap ((p.length : Int) + 1) = (p.length : Int) + 1 := IntWalk.i64_in _ (by omega)
    unfold maxLen at t2
    clear hlk hgo ho hp hpt hN ih hJ hD hJs hY hm
    go_enter Tryz.func108, Tryz.ntmps108
    go_wp2
    refine wp_region_quiet_lit (by kernel_rfl) (by kernel_rfl) ?_
    repeat (any_goals (first | go_big_quiet_step (fail) | quiet_step (fail)))
    refine wpQuiet_nil ?_
    intro _ hw'
    obtain ⟨nq, hw''⟩ := hw'
    subst hw''
    go_wp2
    have hx : Ext W (W.drewN nq) := (Ext.refl W).drewN nq
    have ct1 := Ext.cell_some hx ct; have db1 := Ext.cell_some hx db; have d41 := Ext.cell_some hx d4; have dm1 := dm.ext hx; have dF1 := dF.ext hx; have dM1 := dM.ext hx; have dt1 := dt.ext hx; have hS1 := hS.ext hx
    generalize W.drewN nq = W1 at *
    refine wp_region_tree (.take 0 (.take 1 (.take 2 (.take 3 (.take 4 (.take 5 (.take 6 (.take 7 (.take 8 (.take 9 (.take 10 (.one 11 (.one 12 (.take 13 .nil)))))))))))))) (fun w' => w'.cell? ⟨gt, 0, none⟩ = some (.slice A p.length cp) ∧ w'.cell? ⟨gb, 0, none⟩ = some (.pointer (some ⟨gv, 0, none⟩)) ∧ w'.cell? ⟨gv, 4, none⟩ = some (.map (some gm)) ∧ MapM ikv w' gm (keptM s.kept)) (by kernel_rfl) (by kernel_rfl) (by kernel_rfl) (by kernel_rfl) (fun _ _ _ _ _ h => h) ?_ (fun hHeld => ?_)
    · (first | exact True.intro | ((try dsimp only); (repeat' apply And.intro) <;> first | assumption | (refine Ext.cell_some (Ext.todrew (Ext.refl _)) ?_; assumption)))
    refine t_take (i := 0) (v := ?_) (by (simp only [List.getElem?_toArray, List.getElem?_cons_succ, List.getElem?_cons_zero]); rfl) (by rfl) ?_ (by exact hHeld) ?_
    rotate_left
    · (intro wq hSw; (try dsimp only at hSw); go_simp; (try with_reducible rfl))
    (try simp only [Act.put, List.setIfInBounds_toArray, List.set_cons_zero, List.set_cons_succ])
    refine t_take (i := 1) (v := ?_) (by (simp only [List.getElem?_toArray, List.getElem?_cons_succ, List.getElem?_cons_zero]); rfl) (by rfl) ?_ (by exact hHeld) ?_
    rotate_left
    · (intro wq hSw; (try dsimp only at hSw); go_simp; (try with_reducible rfl))
    (try simp only [Act.put, List.setIfInBounds_toArray, List.set_cons_zero, List.set_cons_succ])
    refine t_take (i := 2) (v := ?_) (by (simp only [List.getElem?_toArray, List.getElem?_cons_succ, List.getElem?_cons_zero]); rfl) (by rfl) ?_ (by exact hHeld) ?_
    rotate_left
    · (intro wq hSw; (try dsimp only at hSw); go_simp; (try with_reducible rfl))
    (try simp only [Act.put, List.setIfInBounds_toArray, List.set_cons_zero, List.set_cons_succ])
    refine t_take (i := 3) (v := ?_) (by (simp only [List.getElem?_toArray, List.getElem?_cons_succ, List.getElem?_cons_zero]); rfl) (by rfl) ?_ (by exact hHeld) ?_
    rotate_left
    · (intro wq hSw; (try dsimp only at hSw); go_simp; (try with_reducible rfl))
    (try simp only [Act.put, List.setIfInBounds_toArray, List.set_cons_zero, List.set_cons_succ])
    refine t_take (i := 4) (v := ?_) (by (simp only [List.getElem?_toArray, List.getElem?_cons_succ, List.getElem?_cons_zero]); rfl) (by rfl) ?_ (by exact hHeld) ?_
    rotate_left
    · (intro wq hSw; (try dsimp only at hSw); go_simp; (try with_reducible rfl))
    (try simp only [Act.put, List.setIfInBounds_toArray, List.set_cons_zero, List.set_cons_succ])
    refine t_take (i := 5) (v := ?_) (by (simp only [List.getElem?_toArray, List.getElem?_cons_succ, List.getElem?_cons_zero]); rfl) (by rfl) ?_ (by exact hHeld) ?_
    rotate_left
    · (intro wq hSw; (try dsimp only at hSw); go_simp; (try with_reducible rfl))
    (try simp only [Act.put, List.setIfInBounds_toArray, List.set_cons_zero, List.set_cons_succ])
    refine t_take (i := 6) (v := ?_) (by (simp only [List.getElem?_toArray, List.getElem?_cons_succ, List.getElem?_cons_zero]); rfl) (by rfl) ?_ (by exact hHeld) ?_
    rotate_left
    · (intro wq hSw; (try dsimp only at hSw); go_simp; (try with_reducible rfl))
    (try simp only [Act.put, List.setIfInBounds_toArray, List.set_cons_zero, List.set_cons_succ])
    refine t_take (i := 7) (v := .tuple #[.agg #[.int .i64 xn, .int .i64 xw, .int .i64 xs], .bool b]) (by (simp only [List.getElem?_toArray, List.getElem?_cons_succ, List.getElem?_cons_zero]); rfl) (by rfl) ?_ (by exact hHeld) ?_
    · exact run_lk (by rfl) (by rfl) (fun W h => h.2.2.2) Hlk.out
    (try simp only [Act.put, List.setIfInBounds_toArray, List.set_cons_zero, List.set_cons_succ])
    refine t_take (i := 8) (v := ?_) (by (simp only [List.getElem?_toArray, List.getElem?_cons_succ, List.getElem?_cons_zero]); rfl) (by rfl) ?_ (by exact hHeld) ?_
    rotate_left
    · (intro wq hSw; (try dsimp only at hSw); go_simp; (try with_reducible rfl))
    (try simp only [Act.put, List.setIfInBounds_toArray, List.set_cons_zero, List.set_cons_succ])
    refine t_take (i := 9) (v := ?_) (by (simp only [List.getElem?_toArray, List.getElem?_cons_succ, List.getElem?_cons_zero]); rfl) (by rfl) ?_ (by exact hHeld) ?_
    rotate_left
    · (intro wq hSw; (try dsimp only at hSw); go_simp; (try with_reducible rfl))
    (try simp only [Act.put, List.setIfInBounds_toArray, List.set_cons_zero, List.set_cons_succ])
    refine t_take (i := 10) (v := ?_) (by (simp only [List.getElem?_toArray, List.getElem?_cons_succ, List.getElem?_cons_zero]); rfl) (by rfl) ?_ (by exact hHeld) ?_
    rotate_left
    · (intro wq hSw; (try dsimp only at hSw); go_simp; (try with_reducible rfl))
    (try simp only [Act.put, List.setIfInBounds_toArray, List.set_cons_zero, List.set_cons_succ])
    refine t_one (i := 11) (by (simp only [List.getElem?_toArray, List.getElem?_cons_succ, List.getElem?_cons_zero]); rfl) ?_
    (((with_reducible refine q_alloc (d := some 7) ti99 ?_); intro W7 g7 hE7 hB7 hg7; replace hE7 := Ext.undrew hE7; have ct2 := Ext.cell_some hE7 ct1; have db2 := Ext.cell_some hE7 db1; have d42 := Ext.cell_some hE7 d41; have dm2 := dm1.ext hE7))
    clear hHeld; refine t_next ?_ (fun hHeld => ?_)
    · (first | exact True.intro | ((try dsimp only); (repeat' apply And.intro) <;> first | assumption | (refine Ext.cell_some (Ext.todrew (Ext.refl _)) ?_; assumption)))
    (try simp only [Act.put, List.setIfInBounds_toArray, List.set_cons_zero, List.set_cons_succ])
    refine t_one (i := 12) (by (simp only [List.getElem?_toArray, List.getElem?_cons_succ, List.getElem?_cons_zero]); rfl) ?_
    (((with_reducible refine q_store (t := 99) (e := 99) (g := g7) (off := 0) (n := 3) (v := .agg #[.int .i64 xn, .int .i64 xw, .int .i64 xs]) ?_ ?_ hB7 size99 ?_ ?_ ?_ ?_); rfl; rfl; rfl; (simp [Value.cells]); (simp [Value.cells, Value.oneCell']); intro W8 hB8 hgr8; simp [putAt, Value.cells] at hB8; have hE8 : Ext W1 W8 := below_grown hE7 hgr8 hg7 hE7.size; have ct2 := Ext.cell_some hE8 ct1; have db2 := Ext.cell_some hE8 db1; have d42 := Ext.cell_some hE8 d41; have dm2 := dm1.ext hE8))
    clear hHeld; refine t_next ?_ (fun hHeld => ?_)
    · (first | exact True.intro | ((try dsimp only); (repeat' apply And.intro) <;> first | assumption | (refine Ext.cell_some (Ext.todrew (Ext.refl _)) ?_; assumption)))
    (try simp only [Act.put, List.setIfInBounds_toArray, List.set_cons_zero, List.set_cons_succ])
    refine t_take (i := 13) (v := ?_) (by (simp only [List.getElem?_toArray, List.getElem?_cons_succ, List.getElem?_cons_zero]); rfl) (by rfl) ?_ (by exact hHeld) ?_
    rotate_left
    · (intro wq hSw; (try dsimp only at hSw); go_simp; (try with_reducible rfl))
    (try simp only [Act.put, List.setIfInBounds_toArray, List.set_cons_zero, List.set_cons_succ])
    refine t_done ?_
    go_wp2_with (go_at_call 109; refine (pthings_any gv fv mv c s.lines gm lv _ (dt1.ext hE8) (dF1.ext hE8) (dM1.ext hE8) Hcb.out).mono ?_; rintro e W9 ⟨rfl, hE9⟩)
    have hE09 : Ext W1 W9 := hE8.trans hE9
    have hB8' := hB8.ext hE9
    have hS9 := hS1.ext hE09
    have hs9 : n0 ≤ W9.heap.size := Nat.le_trans hn0 (Nat.le_trans hx.size hE09.size)
    have hJ9 : J pre W9 := HJs.out _ _ _ HJ.out ((hx.trans hE09).mono hn0)
    have hg7n : n0 ≤ g7 := Nat.le_trans (Nat.le_trans hn0 hx.size) hg7
    have hg7t : g7 ≠ gt := by have := hS1.test.lt; have : W1.heap.size ≤ g7 := hg7; omega
    have hg7o : (Value.slice A p.length cp).ownBlock ≠ some g7 := own_ne hS9.own hB8' (.inl (by decide))
    clear ct1 db1 d41 dm1 dF1 dM1 dt1 ct2 db2 d42 dm2 hB7 hB8 hE7 hE8 hE9 hgr8 ct db d4 dl dm dt dF dM hS hg7
    have HS0 := Lib.hid (show Stay n0 gt (.slice A p.length cp) W W9 (.slice A p.length cp) from Stay.ofExt (hx.trans hE09))
    clear hx hE09
    go_loopw [34] (fun i Wr => ∃ (k : Nat) (q : List (Value × List Int)) (tv : Value), k ≤ c.things ∧ i = .int .i64 k ∧ n0 ≤ Wr.heap.size ∧ J (pre ++ q) Wr ∧ q.map Prod.snd = dfsTo c s.kept r p k ∧ Srch n0 gt gy gp gb l Wr tv p ∧ Stay n0 gt (.slice A p.length cp) W9 Wr tv) (fun i _ => c.things - (intOf i).toNat)
    case atStart => exact ⟨0, [], _, by omega, rfl, hs9, by simpa using hJ9, by simp [dfsTo, allTo], hS9, Stay.refl _ _ _ _⟩
    case round =>
      obtain ⟨k, q, tv, hk, rfl, hn1, hJr, hq, hSr, hSt⟩ := hrel
      have hBx := hSt.blk hB8' hg7n hg7t hg7o
      have x0 := hBx.cell 0; have x1 := hBx.cell 1; have x2 := hBx.cell 2
      simp at x0 x1 x2
      obtain ⟨db, dt, dm, dF, dM⟩ := HD.out _ _ hJr
      have ct := hSr.test.cell 0; have cp' := hSr.pl.cell 0
      simp at ct cp'
      have HJr := Lib.hid hJr; have Hq := Lib.hid hq; have HSt := Lib.hid hSt
      clear hJr hq hSt hS9 hJ9 hs9
      by_cases hlt : k < c.things
      · have hin : (k : Int) < c.things := by omega
        have hk9 : k < 9 := by have := Ho.out.thing9; omega
        have Htot := Lib.hid (total_sn c p k)
        obtain ⟨T, hT⟩ : ∃ T, c.total (p ++ [(k : Int)]) = T := ⟨_, rfl⟩
        have HT := Lib.hid hT
        have hb1 := Ho.out.total_le (p ++ [(k : Int)])
        have zt : IntKind.i64.wrap (c.total p + c.pts k) = T := by rw [← total_sn, ← hT]; exact IntWalk.i64_in _ (by simp at hb1; omega)
        have Hg := Lib.hid (Hgo.out k)
        clear hT hb1
        rw [HT.out] at Hg
        have Hsucc := Lib.hid (dfsTo_succ c s.kept r p k)
        cases hgk : goesOn c s.kept p k with
        | false =>
          rw [hgk] at Hg
          have Hgk := Lib.hid hgk
          cases b with
          | false => have := Hg.out; simp at this
          | true =>
            by_cases hkw : (k : Int) = xw
            · have hks : ¬ T = xs := by have := Hg.out; simp [hkw] at this; exact this
              clear hgk
              subst hkw
              have k1 : (((k : Int) != (k : Int)) = false) := by simp
              have k2 : ((T != xs) = true) := by simp [hks]
              go_wp2_with (go_at_call 110; refine (ppoints_any gv fv mv c s.lines gm lv k _ dt dF (by omega)).mono ?_; rintro e Wp ⟨rfl, hEp⟩; have y1 := Ext.cell_some hEp x1; have y2 := Ext.cell_some hEp x2)
              go_roundw
              case rel =>
                have e : dfsTo c s.kept r p (k + 1) = dfsTo c s.kept r p k := by rw [Hsucc.out, if_neg (by rw [Hgk.out]; decide), List.append_nil]
                exact ⟨k + 1, q, tv, by omega, by go_num, Nat.le_trans hn1 hEp.size, HJs.out _ _ _ HJr.out (hEp.mono hn1), by rw [e]; exact Hq.out, hSr.ext hEp, HSt.out.trans (Stay.ofExt hEp)⟩
              case measure => simp [intOf]; omega
            · clear hgk
              have k1 : (((k : Int) != xw) = true) := by simp [hkw]
              go_wp2_with (go_at_call 110; refine (ppoints_any gv fv mv c s.lines gm lv k _ dt dF (by omega)).mono ?_; rintro e Wp ⟨rfl, hEp⟩; have y1 := Ext.cell_some hEp x1; have y2 := Ext.cell_some hEp x2)
              go_roundw
              case rel =>
                have e : dfsTo c s.kept r p (k + 1) = dfsTo c s.kept r p k := by rw [Hsucc.out, if_neg (by rw [Hgk.out]; decide), List.append_nil]
                exact ⟨k + 1, q, tv, by omega, by go_num, Nat.le_trans hn1 hEp.size, HJs.out _ _ _ HJr.out (hEp.mono hn1), by rw [e]; exact Hq.out, hSr.ext hEp, HSt.out.trans (Stay.ofExt hEp)⟩
              case measure => simp [intOf]; omega
        | true =>
          rw [hgk] at Hg
          have Hgk := Lib.hid hgk
          have hdp := dfsTo_pre c s.kept r p (show k + 1 ≤ c.things by omega)
          have esuc : dfsTo c s.kept r p (k + 1) = dfsTo c s.kept r p k ++ dfs c s.kept r (p ++ [(k : Int)]) := by rw [Hsucc.out, if_pos hgk]
          have hNq : (pre ++ q).length + (dfs c s.kept r (p ++ [(k : Int)])).length ≤ N := by
            have h1 := pre_len hdp
            have h2 := HN.out
            have h3 : (dfsTo c s.kept r p k).length = q.length := by rw [← Hq.out]; simp
            rw [esuc, List.length_append] at h1
            rw [dfs_succ] at h2
            rw [List.length_append]; omega
          have Hesuc := Lib.hid esuc; have Hdp := Lib.hid hdp; have HNq := Lib.hid hNq
          clear hgk esuc hdp hNq
          cases b with
          | false =>
            go_wp2_with (first | (go_at_call 110; refine (ppoints_any gv fv mv c s.lines gm lv k _ dt dF (by omega)).mono ?_; rintro e Wp ⟨rfl, hEp⟩; have y1 := Ext.cell_some hEp x1; have y2 := Ext.cell_some hEp x2; have hSp := hSr.ext hEp; have ct2 := Ext.cell_some hEp ct; have hSt2 := HSt.out.trans (Stay.ofExt hEp); have hJ2 := HJs.out _ _ _ HJr.out (hEp.mono hn1); have hn2 : n0 ≤ Wp.heap.size := Nat.le_trans hn1 hEp.size) | ((with_reducible refine q_bsI (d := some 57) (n := (k : Int)) ?_ ?_); rfl; intro Wb gbs hEb hBb hgb; replace hSp := hSp.ext hEb; replace hSt2 := hSt2.trans (Stay.ofExt hEb); replace hJ2 := HJs.out _ _ _ hJ2 (hEb.mono hn2); replace hn2 : n0 ≤ Wb.heap.size := Nat.le_trans hn2 hEb.size) | ((with_reducible refine q_appIo (d := some 58) rfl hSp.own rfl hBb (by omega) hn2 ?_); intro v' Wa hOa hgra hoa; have hneT := own_ne hSp.own hSp.test (.inl (by decide)); have hneY := own_ne hSp.own hSp.yb (.inl (by decide)); have hneP := own_ne hSp.own hSp.pl (.inl (by decide)); have hTa := hSp.test.grown hgra (fun e => hneT e.symm); have hYa := hSp.yb.grown hgra (fun e => hneY e.symm); have hPa := hSp.pl.grown hgra (fun e => hneP e.symm); have hbA : Below n0 Wb Wa := grown_ext (Below.refl _ _) hSp.own hgra hn2; replace hJ2 := HJs.out _ _ _ hJ2 hbA; have hSt3 := hSt2.row hgra hoa; have hn3 : n0 ≤ Wa.heap.size := Nat.le_trans hn2 hgra.size; have hcl := own_cells hOa; have h01 : 0 < (#[tv] : Array Value).size := (by simp)) | ((with_reducible refine q_store1 (t := 26) (g := gt) (off := 0) (v := v') ?_ ?_ hTa size26 hcl.1 h01 hcl.2 ?_); rfl; rfl; intro Ws hBs hgrs; simp at hBs; have hneT2 := own_ne hOa hTa (.inl (by decide)); have hOs := own_grown hOa hgrs hneT2; have hYT := blk_ne hYa hTa (by decide); have hPT := blk_ne hPa hTa (by decide); have hYs := hYa.grown hgrs (fun e => hYT (Option.some.inj e)); have hPs := hPa.grown hgrs (fun e => hPT (Option.some.inj e)); have hSt4 := hSt3.store hgrs (.inl rfl); have hJ3 := HJs.out _ _ _ hJ2 (below_grown (Below.refl n0 Wa) hgrs hgt hn3); have hn4 : n0 ≤ Ws.heap.size := Nat.le_trans hn3 hgrs.size; have cpS := hPs.cell 0; simp at cpS; have hrec := Hih.out (p ++ [(k : Int)]) v' (pre ++ q) Ws (by have := Hp.out; simp; omega) (by intro y hy; rcases List.mem_append.1 hy with h | h; exact Hpt.out y h; simp at h; subst h; omega) ⟨hBs, hOs, hYs, hPs⟩ hJ3 HNq.out hn4; rw [HT.out] at hrec) | (go_at_call 108; refine hrec.mono ?_; clear hrec; (rintro e Wz (⟨rfl, q2, tv2, hq2, hJz, hSz, hStz⟩ | ⟨rfl, q2, hq2, hJx⟩)); (all_goals (try (obtain ⟨Az, cz, htz, hz1, hz2, hz3, hz4⟩ := hSz.own.ints; subst htz; clear hz3 hz4; obtain ⟨n1, hn1e⟩ : ∃ n, (p ++ [(k : Int)]).length = n := ⟨_, rfl⟩; have Hn1e := Lib.hid hn1e; rw [hn1e] at hSz hz1 hStz; have hn1p : (n1 : Int) - 1 = p.length := (by have h := Hn1e.out; simp at h; omega); have zn1 : IntKind.i64.wrap ((n1 : Int) - 1) = p.length := (by rw [hn1p]; exact IntWalk.i64_in _ (by omega)); clear hn1e hn1p; have ctz := hSz.test.cell 0; simp at ctz; have hTz := hSz.test; have hOz := hSz.own)))) | ((with_reducible refine q_popI (d := some 67) (xs := p) (z := (k : Int)) ?_ hOz ?_ ?_); rfl; rfl; intro u hOu hou; have hclu := own_cells hOu; have h02 : 0 < (#[Value.slice Az n1 cz] : Array Value).size := (by simp)) | ((with_reducible refine q_store1 (t := 26) (g := gt) (off := 0) (v := u) ?_ ?_ hTz size26 hclu.1 h02 hclu.2 ?_); rfl; rfl; intro Wt hBt hgrt; simp at hBt; have hn5 : n0 ≤ Wz.heap.size := Nat.le_trans hn4 hStz.size; have hneT3 := own_ne hOu hTz (.inl (by decide)); have hOt := own_grown hOu hgrt hneT3; have hYT3 := blk_ne hSz.yb hTz (by decide); have hPT3 := blk_ne hSz.pl hTz (by decide); have hYt := hSz.yb.grown hgrt (fun e => hYT3 (Option.some.inj e)); have hPt := hSz.pl.grown hgrt (fun e => hPT3 (Option.some.inj e)); have hSt6 := (hSt4.trans hStz).store hgrt (.inl hou); have hJt := HJs.out _ _ _ hJz (below_grown (Below.refl n0 Wz) hgrt hgt hn5); have hn6 : n0 ≤ Wt.heap.size := Nat.le_trans hn5 hgrt.size))
            · go_roundw
              case rel => exact ⟨k + 1, q ++ q2, u, by omega, by go_num, hn6, by rw [← List.append_assoc]; exact hJt, by rw [List.map_append, Hq.out, hq2, Hesuc.out], ⟨hBt, hOt, hYt, hPt⟩, hSt6⟩
              case measure => simp [intOf]; omega
            · go_ret
              refine .inr ⟨rfl, q ++ q2, ?_, by rw [← List.append_assoc]; exact hJx⟩
              have h1 := Hdp.out
              rw [Hesuc.out] at h1
              rw [List.map_append, Hq.out]
              exact ((List.prefix_append_right_inj _).2 hq2).trans h1
          | true =>
            have hkw : (k : Int) = xw := by have := Hg.out; simp at this; exact this.1
            have hks : T = xs := by have := Hg.out; simp at this; exact this.2
            subst hkw; subst hks
            go_wp2_with (first | (go_at_call 110; refine (ppoints_any gv fv mv c s.lines gm lv k _ dt dF (by omega)).mono ?_; rintro e Wp ⟨rfl, hEp⟩; have y1 := Ext.cell_some hEp x1; have y2 := Ext.cell_some hEp x2; have hSp := hSr.ext hEp; have ct2 := Ext.cell_some hEp ct; have hSt2 := HSt.out.trans (Stay.ofExt hEp); have hJ2 := HJs.out _ _ _ HJr.out (hEp.mono hn1); have hn2 : n0 ≤ Wp.heap.size := Nat.le_trans hn1 hEp.size) | ((with_reducible refine q_bsI (d := some 57) (n := (k : Int)) ?_ ?_); rfl; intro Wb gbs hEb hBb hgb; replace hSp := hSp.ext hEb; replace hSt2 := hSt2.trans (Stay.ofExt hEb); replace hJ2 := HJs.out _ _ _ hJ2 (hEb.mono hn2); replace hn2 : n0 ≤ Wb.heap.size := Nat.le_trans hn2 hEb.size) | ((with_reducible refine q_appIo (d := some 58) rfl hSp.own rfl hBb (by omega) hn2 ?_); intro v' Wa hOa hgra hoa; have hneT := own_ne hSp.own hSp.test (.inl (by decide)); have hneY := own_ne hSp.own hSp.yb (.inl (by decide)); have hneP := own_ne hSp.own hSp.pl (.inl (by decide)); have hTa := hSp.test.grown hgra (fun e => hneT e.symm); have hYa := hSp.yb.grown hgra (fun e => hneY e.symm); have hPa := hSp.pl.grown hgra (fun e => hneP e.symm); have hbA : Below n0 Wb Wa := grown_ext (Below.refl _ _) hSp.own hgra hn2; replace hJ2 := HJs.out _ _ _ hJ2 hbA; have hSt3 := hSt2.row hgra hoa; have hn3 : n0 ≤ Wa.heap.size := Nat.le_trans hn2 hgra.size; have hcl := own_cells hOa; have h01 : 0 < (#[tv] : Array Value).size := (by simp)) | ((with_reducible refine q_store1 (t := 26) (g := gt) (off := 0) (v := v') ?_ ?_ hTa size26 hcl.1 h01 hcl.2 ?_); rfl; rfl; intro Ws hBs hgrs; simp at hBs; have hneT2 := own_ne hOa hTa (.inl (by decide)); have hOs := own_grown hOa hgrs hneT2; have hYT := blk_ne hYa hTa (by decide); have hPT := blk_ne hPa hTa (by decide); have hYs := hYa.grown hgrs (fun e => hYT (Option.some.inj e)); have hPs := hPa.grown hgrs (fun e => hPT (Option.some.inj e)); have hSt4 := hSt3.store hgrs (.inl rfl); have hJ3 := HJs.out _ _ _ hJ2 (below_grown (Below.refl n0 Wa) hgrs hgt hn3); have hn4 : n0 ≤ Ws.heap.size := Nat.le_trans hn3 hgrs.size; have cpS := hPs.cell 0; simp at cpS; have hrec := Hih.out (p ++ [(k : Int)]) v' (pre ++ q) Ws (by have := Hp.out; simp; omega) (by intro y hy; rcases List.mem_append.1 hy with h | h; exact Hpt.out y h; simp at h; subst h; omega) ⟨hBs, hOs, hYs, hPs⟩ hJ3 HNq.out hn4; rw [HT.out] at hrec) | (go_at_call 108; refine hrec.mono ?_; clear hrec; (rintro e Wz (⟨rfl, q2, tv2, hq2, hJz, hSz, hStz⟩ | ⟨rfl, q2, hq2, hJx⟩)); (all_goals (try (obtain ⟨Az, cz, htz, hz1, hz2, hz3, hz4⟩ := hSz.own.ints; subst htz; clear hz3 hz4; obtain ⟨n1, hn1e⟩ : ∃ n, (p ++ [(k : Int)]).length = n := ⟨_, rfl⟩; have Hn1e := Lib.hid hn1e; rw [hn1e] at hSz hz1 hStz; have hn1p : (n1 : Int) - 1 = p.length := (by have h := Hn1e.out; simp at h; omega); have zn1 : IntKind.i64.wrap ((n1 : Int) - 1) = p.length := (by rw [hn1p]; exact IntWalk.i64_in _ (by omega)); clear hn1e hn1p; have ctz := hSz.test.cell 0; simp at ctz; have hTz := hSz.test; have hOz := hSz.own)))) | ((with_reducible refine q_popI (d := some 67) (xs := p) (z := (k : Int)) ?_ hOz ?_ ?_); rfl; rfl; intro u hOu hou; have hclu := own_cells hOu; have h02 : 0 < (#[Value.slice Az n1 cz] : Array Value).size := (by simp)) | ((with_reducible refine q_store1 (t := 26) (g := gt) (off := 0) (v := u) ?_ ?_ hTz size26 hclu.1 h02 hclu.2 ?_); rfl; rfl; intro Wt hBt hgrt; simp at hBt; have hn5 : n0 ≤ Wz.heap.size := Nat.le_trans hn4 hStz.size; have hneT3 := own_ne hOu hTz (.inl (by decide)); have hOt := own_grown hOu hgrt hneT3; have hYT3 := blk_ne hSz.yb hTz (by decide); have hPT3 := blk_ne hSz.pl hTz (by decide); have hYt := hSz.yb.grown hgrt (fun e => hYT3 (Option.some.inj e)); have hPt := hSz.pl.grown hgrt (fun e => hPT3 (Option.some.inj e)); have hSt6 := (hSt4.trans hStz).store hgrt (.inl hou); have hJt := HJs.out _ _ _ hJz (below_grown (Below.refl n0 Wz) hgrt hgt hn5); have hn6 : n0 ≤ Wt.heap.size := Nat.le_trans hn5 hgrt.size))
            · go_roundw
              case rel => exact ⟨k + 1, q ++ q2, u, by omega, by go_num, hn6, by rw [← List.append_assoc]; exact hJt, by rw [List.map_append, Hq.out, hq2, Hesuc.out], ⟨hBt, hOt, hYt, hPt⟩, hSt6⟩
              case measure => simp [intOf]; omega
            · go_ret
              refine .inr ⟨rfl, q ++ q2, ?_, by rw [← List.append_assoc]; exact hJx⟩
              have h1 := Hdp.out
              rw [Hesuc.out] at h1
              rw [List.map_append, Hq.out]
              exact ((List.prefix_append_right_inj _).2 hq2).trans h1
      · obtain rfl : k = c.things := by omega
        go_wp2
        go_ret
        refine .inl ⟨rfl, q, tv, ?_, HJr.out, hSr, HS0.out.trans HSt.out⟩
        rw [Hq.out]; rfl
end Go.Bp
end
section
set_option maxRecDepth 100000
set_option linter.unusedSimpArgs false
set_option linter.unusedVariables false
namespace Go.Bp
open Go.RowKit Go.Proofs
theorem ti97 : (Tryz.prog.info? 97).map (fun i => (i.zero, i.size, i.bytes)) = some (some .nilFunc, 1, 8) := by kernel_rfl
theorem size97 : (Tryz.prog.info? 97).map TypeInfo.size = some 1 := by kernel_rfl
section
variable {ops : Array Oper} {Q : Exit → Act → World → Prop} {a : Act} {w : World} {rest : List Oper}
variable {d : Option Tmp} {ty : TypeId} {pos : String} {after : Array Edge}
/-- make([]int, 0, m). -/
theorem q_make0I {x y : Operand} {m : Nat} (hm : m ≤ 1000000) (hx : a.eval x = .int .i64 0) (hy : a.eval y = .int .i64 m)
    (k : ∀ W g, Ext w W → OwnI w.heap.size W (.slice (some ⟨g, 0, none⟩) 0 m) [] → wpList Tryz.prog ops Q rest (a.put d (.slice (some ⟨g, 0, none⟩) 0 m)) W) :
    wpList Tryz.prog ops Q (⟨d, .makeSlice 26 x y, ty, pos, after, none⟩ :: rest) a w := by
  obtain ⟨i, hi0, hz, hs, hb⟩ := info_parts ti3
  obtain ⟨W, h1, h2, h3⟩ := run_make_own (P := Tryz.prog) w w.heap.size 26 3 i _ 1 Tryz.underlying26 hi0 hz hs .i64 .i64 m (by rw [hb]; omega) (by unfold maxLen; omega) (Nat.le_refl _)
  refine q_run rfl (v := .slice (some ⟨w.heap.size, 0, none⟩) 0 m) (W := W) ?_ (k W _ ⟨h3.os, h3.tape, h3.output, h3.size, fun j hj => h3.block j hj (fun e => by cases e)⟩ h2)
  simp [execOp, hx, hy, h1, Result.andThen]
end
theorem IntB.ofOwn {B : Nat} {A W : World} {v : Value} {xs : List Int} {row : Option Nat} (h : IntB A v xs) (hg : A.grownBy W row) (hr : ∀ r, row = some r → B ≤ r ∧ ∃ o : Obj, A.heap[r]? = some o ∧ o.isCells = false) : IntB W v xs := by
  obtain ⟨⟨Ad, cp, h1, h2, h3, h4, h5⟩, hb⟩ := h
  refine ⟨⟨Ad, cp, h1, h2, h3, h4, fun h0 => ?_⟩, fun ad n c e h0 => ?_⟩
  · obtain ⟨ad, h6, h7⟩ := h5 h0
    exact ⟨ad, h6, fun j u hj => cell_kept (h7 j u hj) hg (fun r e => (hr r e).2)⟩
  · obtain ⟨cur, fr, hc⟩ := hb ad n c e h0
    refine ⟨cur, fr, (hg.block _ (Array.getElem?_eq_some_iff.1 hc).1 (fun e2 => ?_)).trans hc⟩
    obtain ⟨_, o, ho, hx⟩ := hr _ e2.symm
    rw [hc] at ho; injection ho with ho; subst ho; cases hx
theorem GivT.own (m : Nat) (c : Code) : OwnFrom 0 (GivT m c) := fun _ _ _ _ h hg hr => ⟨h.1.ofOwn hg hr, h.2⟩
theorem GivT.ok {c : Code} {s : Sheet} (hs : s.Ok c) {x : Value × List Int} {w : World} (h : GivT s.lines.toNat c x w) : c.TestOk x.2 := ⟨by have := h.2.1; have := hs.l2; omega, h.2.2⟩
set_option maxHeartbeats 4000000 in
theorem ptests_seq (gb gv gm : Nat) (fv mv lv : Value) (c : Code) (s : Sheet) (ho : c.Ok) (hs : s.Ok c) :
    SeqC Tryz.prog 107 #[.pointer (some ⟨gb, 0, none⟩)] (fun x : Value × List Int => #[x.1]) (GivT s.lines.toNat c) (DtT gb gv gm fv mv lv c s) (fun xs => xs.map Prod.snd = tests c s) (fun pre => pre.map Prod.snd <+: tests c s) 729 := by
  intro l J Jx W hJs hJxs hD hY hJ
  show Calls Tryz.prog 107 #[.func (.yield l) #[] #[], .pointer (some ⟨gb, 0, none⟩)] W _
  obtain ⟨db, dt, _, _, _⟩ := hD _ _ hJ
  have dl := dt.cell 3
  simp [tabCells] at dl
  obtain ⟨m, hm⟩ := Int.eq_ofNat_of_zero_le (show 0 ≤ s.lines by have := hs.l1; omega)
  have hmt : s.lines.toNat = m := by omega
  rw [hmt] at hY
  have hm12 : m ≤ 12 := by have := hs.l2; omega
  have Hdfs := Lib.hid (show dfs c s.kept m [] = tests c s by rw [← tests_dfs hs, hm]; rfl)
  have Hlen := Lib.hid (tests_len ho hs)
  have Hrun := Lib.hid (fun (gt gy gp : Nat) (h1 : W.heap.size ≤ gt) (h2 : W.heap.size ≤ gy) (h3 : W.heap.size ≤ gp) => psearch_any W.heap.size gt gy gp gb gv gm l 729 m fv mv lv c s J Jx ho hD hJs hY hm hm12 h1 h2 h3 m [])
  have HJs := Lib.hid hJs; have HJ := Lib.hid hJ
  rw [hm] at dl
  clear hJs hD hY hJ hm hmt ho hs dt
  go_enter Tryz.func107, Tryz.ntmps107
  go_wp2_with (first | ((with_reducible refine q_box (d := some 2) ?_); intro W2 g2 hE2 hB2 hg2; simp [Act.eval, Act.put, Value.cells] at hB2; have hE := hE2; have db := Ext.cell_some hE2 db; have dl := Ext.cell_some hE2 dl) | ((with_reducible refine q_make0I (d := some 9) (m := m) (by omega) ?_ ?_ ?_); rfl; rfl; intro W9 g9 hE9 hO9; have hO := hO9.base hE.size; replace hE := hE.trans hE9; have hBy := hB2.ext hE9; replace db := Ext.cell_some hE9 db) | ((with_reducible refine q_newvar (e := 26) (u := 3) (v := .slice (some ⟨g9, 0, none⟩) 0 m) ti26 ?_ ?_ ?_ ?_ ?_ ?_); (intro g; rfl); (intro g; rfl); rfl; rfl; (simp [Value.cells, Value.oneCell']); intro W3 g3 hE3 hB3 hg3; simp [Value.cells] at hB3; have hg3n : W.heap.size ≤ g3 := Nat.le_trans hE.size hg3; replace hO := hO.ext hE3; replace hE := hE.trans hE3; replace hBy := hBy.ext hE3) | ((with_reducible refine q_alloc (d := some 4) ti97 ?_); intro W4 g4 hE4 hB4 hg4; have hg4n : W.heap.size ≤ g4 := Nat.le_trans hE.size hg4; have hsz4 : W.heap.size ≤ W4.heap.size := Nat.le_trans hE.size hE4.size; replace hO := hO.ext hE4; replace hE := hE.trans hE4; replace hBy := hBy.ext hE4; have hBt := hB3.ext hE4; simp [Value.cells] at hB4; have h01 : 0 < (#[Value.nilFunc] : Array Value).size := (by simp)) | ((with_reducible refine q_store1 (t := 97) (g := g4) (off := 0) (v := .func (.func 108) #[] #[.pointer (some ⟨g3, 0, none⟩), .pointer (some ⟨gb, 0, none⟩), .pointer (some ⟨g2, 0, none⟩), .pointer (some ⟨g4, 0, none⟩)]) ?_ ?_ hB4 size97 ?_ h01 ?_ ?_); rfl; rfl; rfl; rfl; intro W10 hB10 hgr10; simp at hB10; have hyt := blk_ne hBy hB4 (by decide); have htt := blk_ne hBt hB4 (by decide); have hne4 := own_ne hO hB4 (.inl (by decide)); replace hBy := hBy.grown hgr10 (fun e => hyt (Option.some.inj e)); replace hBt := hBt.grown hgr10 (fun e => htt (Option.some.inj e)); replace hO := own_grown hO hgr10 hne4; have hE10 : Ext W W10 := below_grown hE hgr10 hg4n hsz4; have c4 := hB10.cell 0; simp at c4; have hrec := Hrun.out g3 g2 g4 hg3n hg2 hg4n (.slice (some ⟨g9, 0, none⟩) 0 m) [] W10 (by simp) (by simp) ⟨hBt, hO, hBy, hB10⟩ (HJs.out _ _ _ HJ.out hE10) (by rw [Hdfs.out]; simpa using Hlen.out) hE10.size; rw [Hdfs.out] at hrec; have hrec0 : c.total [] = 0 := (by simp [Code.total]); rw [hrec0] at hrec; clear hrec0) | (go_at_call 108; refine hrec.mono ?_; clear hrec; rintro e Wz (⟨rfl, q2, tv2, hq2, hJz, _, _⟩ | ⟨rfl, q2, hq2, hJx⟩)))
  · go_end0
    exact ⟨⟨_, rfl⟩, .inl ⟨q2, hq2, by simpa using hJz⟩⟩
  · go_end0
    exact ⟨⟨_, rfl⟩, .inr ⟨q2, hq2, by simpa using hJx⟩⟩
theorem ptests_any (gv : Nat) (w : World) : Calls Tryz.prog 73 #[.pointer (some ⟨gv, 0, none⟩)] w fun e w' => ∃ gb, e = .returned (.func (.func 107) #[] #[.pointer (some ⟨gb, 0, none⟩)]) ∧ Ext w w' ∧ w.heap.size ≤ gb ∧ Blk w' gb 101 #[.pointer (some ⟨gv, 0, none⟩)] := by
  go_enter Tryz.func73, Tryz.ntmps73
  go_wp2_with (first | ((with_reducible refine q_box (d := some 1) ?_); intro W2 g2 hE2 hB2 hg2; simp [Act.eval, Act.put, Value.cells] at hB2))
  go_ret
  exact ⟨g2, rfl, hE2, hg2, hB2⟩
end Go.Bp
end
section
set_option maxRecDepth 100000
set_option linter.unusedSimpArgs false
set_option linter.unusedVariables false
namespace Go.Bp
open Go.RowKit Go.Proofs
theorem size25 : (Tryz.prog.info? 25).map TypeInfo.size = some 3 := by kernel_rfl
theorem info25 : ∃ i, Tryz.prog.info? 25 = some i ∧ i.size = 3 := size_of size25
theorem ld_code3 {w : World} {g : Nat} {a b c : Value} (h0 : w.cell? ⟨g, 0, none⟩ = some a) (h1 : w.cell? ⟨g, 1, none⟩ = some b) (h2 : w.cell? ⟨g, 2, none⟩ = some c) : (loadVar 25 ⟨g, 0, none⟩).run Tryz.prog w = .ok (.agg #[a, b, c]) w := by
  obtain ⟨i, hi, hs⟩ := info25
  refine load_struct (cs := [a, b, c]) Tryz.underlying25 hi (by rw [hs]; rfl) ?_
  intro j u hj
  have hadd : (⟨g, 0, none⟩ : Addr).add j = ⟨g, j, none⟩ := by unfold Addr.add; split <;> simp_all
  rw [hadd]
  match j, hj with
  | 0, hj => simp at hj; rw [← hj]; exact h0
  | 1, hj => simp at hj; rw [← hj]; exact h1
  | 2, hj => simp at hj; rw [← hj]; exact h2
  | j + 3, hj => simp at hj
set_option maxHeartbeats 2000000 in
theorem ptpass_any (gv gm : Nat) (fv mv lv v : Value) (c : Code) (n : Int) (l : List Int) (w : World) (hB : Blk w gv 111 (tabCells fv mv c n gm lv)) (hF : Faults w fv c.faults) (hM : Strs w mv c.man) (hW : c.wf) (ho : c.Ok) (ht : c.TestOk l) (hl : Ints w v l) :
    Calls Tryz.prog 77 #[.pointer (some ⟨gv, 0, none⟩), v] w fun e w' => e = .returned (.bool (c.passed l)) ∧ Ext w w' := by
  have hE := Ext.refl w
  have d0 := hB.cell 0; have d1 := hB.cell 1; have d2 := hB.cell 2
  simp [tabCells] at d0 d1 d2
  have Ho := Lib.hid ho; have Ht := Lib.hid ht
  have Hx := Lib.hid (show ∀ x ∈ l, 0 ≤ x ∧ x < 9 from fun x hx => by have := ht.2 x hx; have := ho.thing9; omega)
  have Hl := Lib.hid (show l.length ≤ 1000 by have := ht.1; omega)
  have HW := Lib.hid hW
  clear ho ht hW
  go_enter Tryz.func77, Tryz.ntmps77
  go_wp2
  refine wp_region_tree (.take 0 (.take 2 (.take 3 (.take 4 (.take 5 (.one 1 (.one 6 (.take 7 (.take 8 (.take 9 (.take 10 (.take 11 .nil)))))))))))) (fun w' => w'.cell? ⟨gv, 0, none⟩ = some fv ∧ w'.cell? ⟨gv, 1, none⟩ = some mv ∧ w'.cell? ⟨gv, 2, none⟩ = some (.int .i64 c.all)) (by kernel_rfl) (by kernel_rfl) (by kernel_rfl) (by kernel_rfl) (fun _ _ _ _ _ h => h) ?_ (fun hHeld => ?_)
  · (first | exact True.intro | ((try dsimp only); (repeat' apply And.intro) <;> first | assumption | (refine Ext.cell_some (Ext.todrew (Ext.refl _)) ?_; assumption)))
  refine t_take (i := 0) (v := ?_) (by (simp only [List.getElem?_toArray, List.getElem?_cons_succ, List.getElem?_cons_zero]); rfl) (by rfl) ?_ (by exact hHeld) ?_
  rotate_left
  · (intro wq hSw; (try dsimp only at hSw); go_simp; (try with_reducible rfl))
  (try simp only [Act.put, List.setIfInBounds_toArray, List.set_cons_zero, List.set_cons_succ])
  refine t_take (i := 2) (v := ?_) (by (simp only [List.getElem?_toArray, List.getElem?_cons_succ, List.getElem?_cons_zero]); rfl) (by rfl) ?_ (by exact hHeld) ?_
  rotate_left
  · (intro wq hSw; (try dsimp only at hSw); go_simp; (try with_reducible rfl))
  (try simp only [Act.put, List.setIfInBounds_toArray, List.set_cons_zero, List.set_cons_succ])
  refine t_take (i := 3) (v := ?_) (by (simp only [List.getElem?_toArray, List.getElem?_cons_succ, List.getElem?_cons_zero]); rfl) (by rfl) ?_ (by exact hHeld) ?_
  rotate_left
  · (intro wq hSw; (try dsimp only at hSw); go_simp; (try with_reducible rfl))
  (try simp only [Act.put, List.setIfInBounds_toArray, List.set_cons_zero, List.set_cons_succ])
  refine t_take (i := 4) (v := ?_) (by (simp only [List.getElem?_toArray, List.getElem?_cons_succ, List.getElem?_cons_zero]); rfl) (by rfl) ?_ (by exact hHeld) ?_
  rotate_left
  · (intro wq hSw; (try dsimp only at hSw); go_simp; (try with_reducible rfl))
  (try simp only [Act.put, List.setIfInBounds_toArray, List.set_cons_zero, List.set_cons_succ])
  refine t_take (i := 5) (v := .agg #[fv, mv, .int .i64 c.all]) (by (simp only [List.getElem?_toArray, List.getElem?_cons_succ, List.getElem?_cons_zero]); rfl) (by rfl) ?_ (by exact hHeld) ?_
  · exact run_ld (by rfl) (fun W h => ld_code3 h.1 h.2.1 h.2.2)
  (try simp only [Act.put, List.setIfInBounds_toArray, List.set_cons_zero, List.set_cons_succ])
  refine t_one (i := 1) (by (simp only [List.getElem?_toArray, List.getElem?_cons_succ, List.getElem?_cons_zero]); rfl) ?_
  ((refine q_call (by rfl) (pcount_any _ l _ (hl.d) Hx.out Hl.out) (by go_simp) ?_; rintro e W9 ⟨rfl, hE9⟩; refine ⟨_, rfl, ?_⟩; have hZ := hE9.undrew; have e0 := Ext.cell_some hZ d0; have e1 := Ext.cell_some hZ d1; have e2 := Ext.cell_some hZ d2))
  clear hHeld; refine t_next ?_ (fun hHeld => ?_)
  · (first | exact True.intro | ((try dsimp only); (repeat' apply And.intro) <;> first | assumption | (refine Ext.cell_some (Ext.todrew (Ext.refl _)) ?_; assumption)))
  (try simp only [Act.put, List.setIfInBounds_toArray, List.set_cons_zero, List.set_cons_succ])
  refine t_one (i := 6) (by (simp only [List.getElem?_toArray, List.getElem?_cons_succ, List.getElem?_cons_zero]); rfl) ?_
  ((refine q_call (by rfl) (ppasses_any _ c l _ (CodeV.of (hF.ext hZ) (hM.ext hZ) HW.out) Ho.out Ht.out) (by go_simp) ?_; rintro e W14 ⟨rfl, hE14⟩; refine ⟨_, rfl, ?_⟩; have hY := hZ.trans hE14; have e0 := Ext.cell_some hY d0; have e1 := Ext.cell_some hY d1; have e2 := Ext.cell_some hY d2))
  clear hHeld; refine t_next ?_ (fun hHeld => ?_)
  · (first | exact True.intro | ((try dsimp only); (repeat' apply And.intro) <;> first | assumption | (refine Ext.cell_some (Ext.todrew (Ext.refl _)) ?_; assumption)))
  (try simp only [Act.put, List.setIfInBounds_toArray, List.set_cons_zero, List.set_cons_succ])
  refine t_take (i := 7) (v := ?_) (by (simp only [List.getElem?_toArray, List.getElem?_cons_succ, List.getElem?_cons_zero]); rfl) (by rfl) ?_ (by exact hHeld) ?_
  rotate_left
  · (intro wq hSw; (try dsimp only at hSw); go_simp; (try with_reducible rfl))
  (try simp only [Act.put, List.setIfInBounds_toArray, List.set_cons_zero, List.set_cons_succ])
  refine t_take (i := 8) (v := ?_) (by (simp only [List.getElem?_toArray, List.getElem?_cons_succ, List.getElem?_cons_zero]); rfl) (by rfl) ?_ (by exact hHeld) ?_
  rotate_left
  · (intro wq hSw; (try dsimp only at hSw); go_simp; (try with_reducible rfl))
  (try simp only [Act.put, List.setIfInBounds_toArray, List.set_cons_zero, List.set_cons_succ])
  refine t_take (i := 9) (v := ?_) (by (simp only [List.getElem?_toArray, List.getElem?_cons_succ, List.getElem?_cons_zero]); rfl) (by rfl) ?_ (by exact hHeld) ?_
  rotate_left
  · (intro wq hSw; (try dsimp only at hSw); go_simp; (try with_reducible rfl))
  (try simp only [Act.put, List.setIfInBounds_toArray, List.set_cons_zero, List.set_cons_succ])
  refine t_take (i := 10) (v := ?_) (by (simp only [List.getElem?_toArray, List.getElem?_cons_succ, List.getElem?_cons_zero]); rfl) (by rfl) ?_ (by exact hHeld) ?_
  rotate_left
  · (intro wq hSw; (try dsimp only at hSw); go_simp; (try with_reducible rfl))
  (try simp only [Act.put, List.setIfInBounds_toArray, List.set_cons_zero, List.set_cons_succ])
  refine t_take (i := 11) (v := ?_) (by (simp only [List.getElem?_toArray, List.getElem?_cons_succ, List.getElem?_cons_zero]); rfl) (by rfl) ?_ (by exact hHeld) ?_
  rotate_left
  · (intro wq hSw; (try dsimp only at hSw); go_simp; (try with_reducible rfl))
  (try simp only [Act.put, List.setIfInBounds_toArray, List.set_cons_zero, List.set_cons_succ])
  refine t_done ?_
  go_wp2
  go_ret
  exact ⟨rfl, hY⟩
end Go.Bp
end
section
/- A function that holds a range over a function: its end. No program stands in it. -/
set_option maxRecDepth 100000
namespace Go.Bp
open Go.RowKit
variable {P : Program} {fn : Func} {R : Ending → World → Prop}
theorem calls_marks {f : FuncId} {c : Go.Code} {args : Array Value} {w : World} (hf : P.funcs[f]? = some fn) (hb : fn.body = some c)
    (h : c.wp P (bodyPostM Fence.wide 0 P fn R) { tmps := args ++ Array.replicate (fn.ntmps - args.size) undef, defers := [] } w) : Calls P f args w R :=
  callsIn_wide.1 (callsIn_of_wp_marks (n := 0) hf hb trivial (wpIn_wide.2 h) rfl)
theorem postM_none {e : Exit} {a : Act} {w : World} (h : bodyPost P fn R e a w) : bodyPostM Fence.wide 0 P fn R e a w := by
  cases e with
  | normal => obtain ⟨hd, v, hr, hR⟩ := h; show LeavesInM Fence.wide 0 P fn a.tmps R a.defers .returning w; rw [hd]; exact ⟨v, hr, hR⟩
  | ret => obtain ⟨hd, v, hr, hR⟩ := h; show LeavesInM Fence.wide 0 P fn a.tmps R a.defers .returning w; rw [hd]; exact ⟨v, hr, hR⟩
  | panic ch => obtain ⟨hd, hR⟩ := h; show LeavesInM Fence.wide 0 P fn a.tmps R a.defers (.panicking ch) w; rw [hd]; exact hR
  | outgrown => exact h
  | exit id => exact h.elim
  | goto l => exact h.elim
/-- One range over a function is behind: its block is shut, then the results. -/
theorem postM_mark {a : Act} {w : World} {D : Nat} (hd : a.defers = [{ target := .collected D, args := #[] }]) (hK : w.heap[D]? = some (.deferred (some [])))
    (h : bodyPost P fn R .ret { a with defers := [] } (w.putObj D (.deferred none))) : bodyPostM Fence.wide 0 P fn R .ret a w := by
  obtain ⟨_, v, hr, hR⟩ := h
  show LeavesInM Fence.wide 0 P fn a.tmps R a.defers .returning w
  rw [hd]
  exact ⟨by simp, .inl ⟨D, _, rfl, run_takeDeferred hK, v, hr, hR⟩⟩
/-- What lay below D lies behind it. -/
theorem below_put {B D : Nat} {w0 w : World} (h : Below B w0 w) (hB : B ≤ D) (o : Obj) : Below B w0 (w.putObj D o) :=
  ⟨h.os, h.tape, h.output, by simpa using h.size, fun k hk => (World.putObj_heap_other (by omega)).trans (h.block k hk)⟩
/-- What a round's activation begins as. -/
def roundAct (ps : Array Tmp) (vs : Array Value) (a : Act) : Act := { tmps := (ps.zip vs).foldl (fun t (p, v) => t.setIfInBounds p v) a.tmps, defers := [] }
/-- wp_rangeFuncC where nothing is assigned ahead of the body. -/
theorem wp_rangeFuncS {α : Type} {g : Operand} {ps : Array Tmp} {body : Go.Code} {Q : Exit → Act → World → Prop} {a : Act} {w : World}
    {gf : Nat} {lb : Array Value} (hg : a.eval g = .func (.func gf) #[] lb) (eg : ∀ args w, (callFunc gf args).run P w = .ok (.enter gf args) w)
    {encs : α → Array Value} {Giv : α → World → Prop} {Dt : World → Prop} {S Sp : List α → Prop} {N : Nat} (hseq : SeqC P gf lb encs Giv Dt S Sp N) (hps : ∀ x, (encs x).size = ps.size)
    (hGv : OwnFrom 0 Giv)
    (I : List α → World → Prop) (Ix : Go.Code → List α → World → Prop) (hI : ∀ s A B, I s A → Below w.heap.size A B → I s B) (hIx : ∀ c, OwnFrom w.heap.size (Ix c)) (hDt : ∀ s A, I s A → Dt A) (h0 : I [] w)
    (hbody : ∀ (l : Nat) (pre : List α) (x : α) (W : World), I pre W → Giv x W → pre.length < N → w.heap.size < W.heap.size → body.wpIn (Fence.wide.inRound l) 0 P (postC w.heap.size I Ix (pre ++ [x]) W) (roundAct ps (encs x) a) W)
    (hdone : ∀ (D : Nat) (xs : List α) (W : World), w.heap.size ≤ D → S xs → I xs W → W.heap[D]? = some (.deferred (some [])) → Q .normal { a with defers := { target := .collected D, args := #[] } :: a.defers } W)
    (hstop : ∀ (D : Nat) (c : Go.Code) (pre : List α) (W : World), w.heap.size ≤ D → Sp pre → Ix c pre W → W.heap[D]? = some (.deferred (some [])) → c.wp P Q { a with defers := { target := .collected D, args := #[] } :: a.defers } W) :
    (Go.Code.rangeFunc g ps .skip body).wp P Q a w :=
  wp_rangeFuncC hg eg hseq hps hGv I Ix hI hIx hDt h0 (fun x => roundAct ps (encs x) a) (fun _ _ _ _ hK => wpIn_skip hK) hbody hdone hstop
end Go.Bp
end
