/- Texts P26 L1 LC LT of the proof, merged: contracts of functions of chapter 10, of the program and of the reference, and plain laws. -/
import Derived.Lib.SplitLaws
import Derived.Test.YthomnkgiaapljaaGreatDoorD03
import Derived.Test.YthomnkgiaapljaaGreatDoorD08
section
set_option maxRecDepth 100000
set_option linter.unusedSimpArgs false
set_option linter.unusedVariables false
namespace Go.Bp
open Go.RowKit Go.Proofs
theorem postD_none {P : Program} {fn : Func} {R : Ending → World → Prop} {a : Act} {w : World} (h : bodyPost P fn R .ret a w) : bodyPostD P fn R .ret a w := by
  obtain ⟨hd, v, hr, hR⟩ := h
  show Leaves P fn a.tmps R a.defers .returning w
  rw [hd]; exact ⟨v, hr, hR⟩
/-- What Read's two results are read as. -/
theorem read_results {a : Array Value} {g4 g5 : Nat} {w : World} {n e : Int} {kv : Value} (h4 : a.getD 4 undef = .pointer (some ⟨g4, 0, none⟩)) (h5 : a.getD 5 undef = .pointer (some ⟨g5, 0, none⟩)) (hB4 : Blk w g4 39 #[.int .i64 n, kv]) (hB5 : Blk w g5 27 #[.int .i64 e]) :
    (results Tryz.f40 a).run Tryz.prog w = .ok (.tuple #[.agg #[.int .i64 n, kv], .int .i64 e]) w := by
  have hl4 := ld_sheet hB4
  have hl5 := ld_e (cell_blk hB5)
  have h4' : a[4]?.getD undef = .pointer (some ⟨g4, 0, none⟩) := by simpa [Array.getD_eq_getD_getElem?] using h4
  have h5' : a[5]?.getD undef = .pointer (some ⟨g5, 0, none⟩) := by simpa [Array.getD_eq_getD_getElem?] using h5
  simp [results, Tryz.results40, h4', h5', asAddr, hl4, hl5, Result.andThen, Sem.run_bind]
def readDefer (g4 g5 : Nat) : List Deferred := [{ target := .fn (.func 88) #[.pointer (some ⟨g4, 0, none⟩), .pointer (some ⟨g5, 0, none⟩)], args := #[] }]
theorem read_fail {c : Code} {text : ByteArray} {w W : World} {g4 g5 : Nat} {a : Act} {a0 a1 a5 : Value} (hd : a.defers = readDefer g4 g5) (h4 : a.tmps.getD 4 undef = .pointer (some ⟨g4, 0, none⟩)) (h5 : a.tmps.getD 5 undef = .pointer (some ⟨g5, 0, none⟩))
    (hB4 : Blk W g4 39 #[a0, a1]) (hB5 : Blk W g5 27 #[a5]) (hE : Ext w W) (hg4 : w.heap.size ≤ g4) (hg5 : w.heap.size ≤ g5) (hr : preadAns c text = (⟨0, []⟩, 6)) :
    bodyPostD Tryz.prog Tryz.f40 (RetSI w (preadAns c text).1 (preadAns c text).2) (.panic noForm) a W := by
  show Leaves Tryz.prog Tryz.f40 a.tmps _ a.defers (.panicking noForm) W
  rw [hd]
  refine leaves_cons (f := 88) (args := #[.pointer (some ⟨g4, 0, none⟩), .pointer (some ⟨g5, 0, none⟩)]) (by simp) (by simp [go_sem]) ?_
  refine (pcatch_any g4 g5 a0 a1 a5 W hB4 hB5).mono ?_
  rintro e u' w'' ⟨rfl, rfl, h4', h5', hn⟩
  show Leaves Tryz.prog Tryz.f40 a.tmps _ [] .returning w''
  refine ⟨_, read_results h4 h5 h4' h5', ?_⟩
  rw [hr]
  exact ⟨_, rfl, ⟨.slice none 0 0, rfl, Sl.none_ _ _⟩, hn.ext hE (by intro g hg; simp at hg; rcases hg with rfl | rfl <;> assumption)⟩
theorem read_done {c : Code} {text : ByteArray} {w W : World} {g4 g5 : Nat} {a : Act} {s : Sheet} {kv : Value} {err : Int} (hd : a.defers = readDefer g4 g5) (h4 : a.tmps.getD 4 undef = .pointer (some ⟨g4, 0, none⟩)) (h5 : a.tmps.getD 5 undef = .pointer (some ⟨g5, 0, none⟩))
    (hB4 : Blk W g4 39 #[.int .i64 s.lines, kv]) (hB5 : Blk W g5 27 #[.int .i64 err]) (hK : Lines W kv s.kept) (hE : Ext w W) (hr : preadAns c text = (s, err)) :
    bodyPostD Tryz.prog Tryz.f40 (RetSI w (preadAns c text).1 (preadAns c text).2) .ret a W := by
  show Leaves Tryz.prog Tryz.f40 a.tmps _ a.defers .returning W
  rw [hd]
  refine leaves_cons (f := 88) (args := #[.pointer (some ⟨g4, 0, none⟩), .pointer (some ⟨g5, 0, none⟩)]) (by simp) (by simp [go_sem]) ?_
  refine (pidle_any g4 g5 W).mono ?_
  rintro e u' w'' ⟨rfl, rfl, rfl⟩
  show Leaves Tryz.prog Tryz.f40 a.tmps _ [] .returning _
  refine ⟨_, read_results h4 h5 hB4 hB5, ?_⟩
  rw [hr]
  exact ⟨_, rfl, ⟨kv, rfl, hK⟩, hE⟩
theorem leaves_same {P : Program} {fn : Func} {R : Ending → World → Prop} {s t : Array Value} (h : results fn s = results fn t) : ∀ (ds : List Deferred) (u : FrameMode) (w : World), Leaves P fn s R ds u w → Leaves P fn t R ds u w
  | [], .returning, w, hl => by obtain ⟨v, h1, h2⟩ := hl; exact ⟨v, h ▸ h1, h2⟩
  | [], .panicking _, _, hl => hl
  | [], .run, _, hl => hl
  | d :: ds, u, w, hl => by
    obtain ⟨hu, fv, cap, f, args, h1, h2, h3⟩ := hl
    refine ⟨hu, fv, cap, f, args, h1, h2, h3.mono ?_⟩
    intro e u' w' he
    cases e with
    | returned _ => exact leaves_same h ds _ _ he
    | panicked _ => exact leaves_same h ds _ _ he
    | outgrown => exact he
theorem pan40 {R : Ending → World → Prop} {c : List PanicEntry} {a : Act} {d : Tmp} {v : Value} {w : World} (hd : (d != 4 && d != 5) = true)
    (h : bodyPostD Tryz.prog Tryz.f40 R (.panic c) (a.put (some d) v) w) : bodyPostD Tryz.prog Tryz.f40 R (.panic c) a w := by
  have hd' : d ≠ 4 ∧ d ≠ 5 := by simpa using hd
  refine leaves_same (s := (a.put (some d) v).tmps) ?_ _ _ _ h
  simp [results, Tryz.results40, Act.put, Array.getElem?_setIfInBounds_ne hd'.1, Array.getElem?_setIfInBounds_ne hd'.2]
section
variable {P : Program} {md : Region.Mode} {ops : Array Oper} {Q : Exit → Act → World → Prop} {S : World → Prop}
theorem wpAnyH_of_treeD {okd : Tmp → Bool} (hs : Region.noSelect ops = true) (hd : ops.all (fun o => match o.dst with | none => true | some d => okd d) = true) (hQ : ∀ c (a : Act) (d : Tmp) (v : Value) (w : World), okd d = true → Q (.panic c) (a.put (some d) v) w → Q (.panic c) a w) :
    ∀ (t : OTree) (l : Array Bool) (fuel : Nat) (a : Act) (w : World), t.depth ≤ fuel → okTree md ops t l = true → wpTree P ops Q S t a w → wpAnyH P md ops Q S fuel l a w
  | .nil, l, fuel, a, w, _, hok, h => wpAnyH_done (by simpa [okTree] using hok) h fuel
  | .take i r, l, 0, a, w, hf, _, _ => by simp [OTree.depth] at hf
  | .one i r, l, 0, a, w, hf, _, _ => by simp [OTree.depth] at hf
  | .two i r j s, l, 0, a, w, hf, _, _ => by simp [OTree.depth] at hf
  | .take i r, l, fuel + 1, a, w, hf, hok, h => by
    obtain ⟨oi, v, ho, hy, hS, h⟩ := h
    simp only [okTree, Bool.and_eq_true] at hok
    have hoi : oi ∈ ops := Array.mem_of_getElem? ho
    have hdi := (Array.all_eq_true_iff_forall_mem.1 hd) oi hoi
    refine wpAnyH_take ho hs hok.1.1 hok.1.2 (fun c a w h => ?_) hy hS (wpAnyH_of_treeD hs hd hQ r _ fuel _ _ (by simpa [OTree.depth] using hf) hok.2 h)
    cases hdd : oi.dst with
    | none => rw [hdd] at h; exact h
    | some d => rw [hdd] at h hdi; exact hQ c a d v w hdi h
  | .one i r, l, fuel + 1, a, w, hf, hok, h => by
    simp only [okTree, Bool.and_eq_true, beq_iff_eq] at hok
    refine wpAnyH_all hok.1 (by simp) fun j hj => ?_
    obtain rfl : j = i := by simpa using hj
    exact wpOp_mono (fun a' w' h' => ⟨h'.1, wpAnyH_of_treeD hs hd hQ r _ fuel _ _ (by simpa [OTree.depth] using hf) hok.2 h'.2⟩) h
  | .two i r j s, l, fuel + 1, a, w, hf, hok, h => by
    simp only [okTree, Bool.and_eq_true, beq_iff_eq] at hok
    obtain ⟨h1, h2⟩ := h
    have hd2 : r.depth ≤ fuel ∧ s.depth ≤ fuel := by simp only [OTree.depth] at hf; omega
    refine wpAnyH_all hok.1.1 (by simp) fun k hk => ?_
    have hk : k = i ∨ k = j := by simpa using hk
    rcases hk with rfl | rfl
    · exact wpOp_mono (fun a' w' h' => ⟨h'.1, wpAnyH_of_treeD hs hd hQ r _ fuel _ _ hd2.1 hok.1.2 h'.2⟩) h1
    · exact wpOp_mono (fun a' w' h' => ⟨h'.1, wpAnyH_of_treeD hs hd hQ s _ fuel _ _ hd2.2 hok.2 h'.2⟩) h2
theorem wp_region_treeD {id : Nat} {a : Act} {w : World} (t : OTree) (S : World → Prop) (okd : Tmp → Bool) (hm : P.follows .mixedOrders = true)
    (hs : Region.noSelect ops = true) (hf : Nat.ble t.depth ops.size = true) (hok : okTree .any ops t (Array.replicate ops.size false) = true)
    (hd : ops.all (fun o => match o.dst with | none => true | some d => okd d) = true)
    (hQ : ∀ c (a : Act) (d : Tmp) (v : Value) (w : World), okd d = true → Q (.panic c) (a.put (some d) v) w → Q (.panic c) a w)
    (hS : S w.drew) (h : S w.drew → wpTree P ops Q S t a w.drew) : (Code.region id ops true).wp P Q a w :=
  wp_region_held_drew (S := S) hm hS fun hS => wpAnyH_of_treeD hs hd hQ t _ _ _ _ (Nat.le_of_ble_eq_true hf) hok (h hS)
end
theorem run_slice1 (g n : Nat) (hn : n < 1000000) : ∃ p, (0 < n → p = (⟨g, 1, none⟩ : Addr)) ∧ ∀ w, (Instr.sliceAt 23 (.slice (some ⟨g, 0, none⟩) (n + 1) (n + 1)) (some (.int .i64 1)) none none).run Tryz.prog w = .ok (.slice (some p) n n) w := by
  by_cases h : n = 0
  · subst h; exact ⟨⟨g, 0, none⟩, by simp, fun w => by go_simp⟩
  · exact ⟨⟨g, 1, none⟩, by simp, fun w => by go_simp; intro h; omega⟩
theorem glue_mem (b : UInt8) : ∀ (ps : List (List UInt8)) {p : List UInt8}, p ∈ ps → p.length ≤ (glue b ps).length
  | [], p, h => by simp at h
  | [q], p, h => by simp at h; subst h; simp [glue]
  | q :: r :: ps, p, h => by
    rcases List.mem_cons.1 h with rfl | h
    · simp [glue]
    · have := glue_mem b (r :: ps) h; simp [glue]; omega
theorem cut_mem {b : UInt8} {l p : List UInt8} (h : p ∈ cutAt b l) : p.length ≤ l.length := by
  have := glue_mem b _ h; rwa [glue_cut] at this
theorem lineL_3 {c : Code} {l p q r : List UInt8} (h : cutAt 32 l = [p, q, r]) : lineL c l = (numL p).bind fun x => (numL r).bind fun y => some ⟨x, idxP (fun s => decide (S q = s)) c.names, y⟩ := by
  unfold lineL; rw [h]
theorem lineL_no3 {c : Code} {l : List UInt8} (h : (cutAt 32 l).length ≠ 3) : lineL c l = none := by
  unfold lineL
  split
  · rename_i h2; rw [h2] at h; exact absurd rfl h
  · rfl
theorem linesL_none {c : Code} : ∀ {rs : List (List UInt8)} {k : Nat} (hk : k < rs.length), lineL c rs[k] = none → linesL c rs = none
  | r :: rs, 0, _, h => by have h' : lineL c r = none := h; simp [linesL, h']
  | r :: rs, k + 1, hk, h => by
    have h' := linesL_none (c := c) (rs := rs) (k := k) (by simpa using hk) (by simpa using h)
    simp [linesL, h']
theorem linesL_app {c : Code} {r : List UInt8} {x : Line} (hx : lineL c r = some x) : ∀ {l : List (List UInt8)} {xs : List Line}, linesL c l = some xs → linesL c (l ++ [r]) = some (xs ++ [x])
  | [], xs, h => by simp [linesL] at h; subst h; simp [linesL, hx]
  | q :: l, xs, h => by
    simp only [linesL, List.cons_append] at h ⊢
    cases hq : lineL c q with
    | none => rw [hq] at h; simp at h
    | some y =>
      rw [hq] at h
      cases hl : linesL c l with
      | none => rw [hl] at h; simp at h
      | some ys =>
        rw [hl] at h
        have := linesL_app (c := c) hx hl
        rw [this]
        simp at h ⊢
        subst h; rfl
theorem linesL_snoc {c : Code} {rs : List (List UInt8)} {k : Nat} {xs : List Line} {x : Line} (hk : k < rs.length) (h : linesL c (rs.take k) = some xs) (hx : lineL c rs[k] = some x) : linesL c (rs.take (k + 1)) = some (xs ++ [x]) := by
  rw [take_snoc rs hk]; exact linesL_app hx h
theorem linesL_len {c : Code} : ∀ {l : List (List UInt8)} {xs : List Line}, linesL c l = some xs → xs.length = l.length
  | [], xs, h => by simp [linesL] at h; subst h; rfl
  | q :: l, xs, h => by
    simp only [linesL] at h
    cases hq : lineL c q with
    | none => rw [hq] at h; simp at h
    | some y =>
      rw [hq] at h
      cases hl : linesL c l with
      | none => rw [hl] at h; simp at h
      | some ys =>
        rw [hl] at h
        have := linesL_len (c := c) hl
        simp at h; subst h; simp [this]
theorem glue_len (b : UInt8) : ∀ (r : List UInt8) (rs : List (List UInt8)), r.length + rs.length ≤ (glue b (r :: rs)).length
  | r, [] => by simp [glue]
  | r, p :: rs => by have := glue_len b p rs; simp [glue] at this ⊢; omega
section
variable {ops : Array Oper} {Q : Exit → Act → World → Prop} {a : Act} {w : World} {rest : List Oper}
/-- A call of number. -/
theorem q_num {o : Oper} (hg : o.guard = none) {s : List UInt8} (hs : s.length ≤ 1000) (hv : Env w) (hr : (execOp a.eval o).run Tryz.prog w = .ok (.enter 92 #[.string (S s)]) w)
    (hn : ∀ x W, numL s = some x → Ext w W → wpList Tryz.prog ops Q rest (a.put o.dst (.int .i64 x)) W) (hp : ∀ W, numL s = none → Ext w W → Q (.panic noForm) a W) : wpList Tryz.prog ops Q (o :: rest) a w := by
  refine wpList_plain hg fun K hK => ?_
  unfold Oper.wp
  rw [hr]
  refine Calls.mono (pnumber_any (S s) (by rw [S_size]; exact hs) w hv) ?_
  rw [S_list]
  rintro e w' ⟨hE, (⟨n, h1, rfl⟩ | ⟨h1, rfl⟩)⟩
  · exact hK _ _ (hn _ _ h1 hE)
  · exact hp _ h1 hE
end
theorem pread_rows {c : Code} {text body : ByteArray} {r : List UInt8} {rs : List (List UInt8)}
    (h : preadAns c text = (match sheetL c text.data.toList with | some s => if s.err c = 0 then (s, 0) else (⟨0, []⟩, 6) | none => (⟨0, []⟩, 6)))
    (hs : Lib.hasSuffix text.data.toList [10] = true) (hb : body.data.toList = text.data.toList.take (text.data.toList.length - 1)) (hr : cutAt 10 body.data.toList = r :: rs) :
    (numL r = none → preadAns c text = (⟨0, []⟩, 6)) ∧ (linesL c rs = none → preadAns c text = (⟨0, []⟩, 6)) ∧ ∀ n xs, numL r = some n → linesL c rs = some xs → preadAns c text = if Sheet.err c ⟨n, xs⟩ = 0 then (⟨n, xs⟩, 0) else (⟨0, []⟩, 6) := by
  have e : sheetL c text.data.toList = (numL r).bind fun n => (linesL c rs).bind fun xs => some ⟨n, xs⟩ := by
    unfold sheetL; rw [if_pos hs, ← hb, hr]
  rw [h, e]
  refine ⟨fun h1 => by rw [h1]; rfl, fun h1 => ?_, fun n xs h1 h2 => by rw [h1, h2]; rfl⟩
  rw [h1]; cases numL r <;> rfl
theorem pSplit_any (s : ByteArray) (b : UInt8) (w : World) (hv : Env w) (hs : s.size ≤ 1000) :
    Calls Tryz.prog 91 #[.string s, .string (S [b])] w fun e w' => ∃ g, e = .returned (.slice (some ⟨g, 0, none⟩) (cutAt b s.data.toList).length (cutAt b s.data.toList).length) ∧ Blk w' g 9 (encS ((cutAt b s.data.toList).map S)).toArray ∧ Ext w w' := by
  obtain ⟨m, hm⟩ := hv.maxLen
  have h1 : 1 ≤ (S [b]).size := by rw [S_size]; simp
  have hl := Lib.splitB_all (S [b]) h1 0 _ s rfl
  rw [splitB_cut, List.length_map] at hl
  refine (Tryz.strings_Split s (S [b]) m w (by omega) hm h1).mono ?_
  rintro e w' ⟨rfl, rfl⟩
  rw [splitB_cut, ← hl]
  exact ⟨w.heap.size, rfl, Blk.new w 9 _, Ext.ofAlloc w _⟩
set_option maxHeartbeats 4000000 in
theorem PRead_any (cv : Value) (c : Code) (text : ByteArray) (w : World) (h : CodeV w cv c) (hv : Env w) (hsz : text.size ≤ maxLen) :
    Calls Tryz.prog 40 #[cv, .string text] w (RetSI w (readAns c text).1 (readAns c text).2) := by
  rw [← pread_eq]
  obtain ⟨fv, mv, rfl, hF, hM, hW⟩ := h
  have hE := Ext.refl w
  have HW := Lib.hid hW
  clear hW
  unfold maxLen at hsz
  have hFw := hF; have hMw := hM
  have hmf : ∀ (fn : Fn) (first cap : Array Value) (w : World), (Instr.makeFunc fn first cap).run Tryz.prog w = .ok (.func fn first cap) w := fun _ _ _ _ => rfl
  by_cases ha : c.check.2.2 = 0
  · have ho := Code.ok_of_check ha
    have hck := Code.check_of_ok ho
    have Ho := Lib.hid ho
    have Hck := Lib.hid hck
    have Ha := Lib.hid ha
    by_cases h6 : text.size ≤ 600
    · have q6 : ¬ ((600 : Int) < text.size) := by omega
      have Hre := Lib.hid (show preadAns c text = (match sheetL c text.data.toList with | some s => if s.err c = 0 then (s, 0) else (⟨0, []⟩, 6) | none => (⟨0, []⟩, 6)) by unfold preadAns readErr; rw [if_neg (by simp [ha, h6])]; cases sheetL c text.data.toList <;> rfl)
      clear ha ho hck h6
      go_enter_defers Tryz.func40, Tryz.ntmps40
      go_wp2_with (first | (((with_reducible refine q_alloc (d := some 4) ti39 ?_); intro W4 g4 hE4 hB4 hg4; have h40 := Nat.le_trans hE.size hg4; simp [Value.cells] at hB4; replace hE := hE.trans hE4; replace hF := hF.ext hE4; replace hM := hM.ext hE4; replace hB2 := hB2.ext hE4; replace hb2_0 := Ext.cell_some hE4 hb2_0; replace hb2_1 := Ext.cell_some hE4 hb2_1; replace hb2_2 := Ext.cell_some hE4 hb2_2)) | (((with_reducible refine q_alloc (d := some 5) ti27 ?_); intro W5 g5 hE5 hB5 hg5; have h50 := Nat.le_trans hE.size hg5; simp [Value.cells] at hB5; replace hE := hE.trans hE5; replace hF := hF.ext hE5; replace hM := hM.ext hE5; replace hB2 := hB2.ext hE5; replace hB4 := hB4.ext hE5; replace hb2_0 := Ext.cell_some hE5 hb2_0; replace hb2_1 := Ext.cell_some hE5 hb2_1; replace hb2_2 := Ext.cell_some hE5 hb2_2)) | ((go_at_call 17; refine (PCheck_any _ c _ (CodeV.of hF hM HW.out)).mono ?_; rintro e W17 ⟨rfl, hE17⟩; replace hE := hE.trans hE17; replace hB2 := hB2.ext hE17; replace hB4 := hB4.ext hE17; replace hB5 := hB5.ext hE17; rw [Hck.out]; have h01 : 0 < (#[Value.int .i64 0] : Array Value).size := (by simp))) | (((with_reducible refine q_store1 (t := 27) (g := g5) (off := 0) (v := .int .i64 0) ?_ ?_ hB5 size27 ?_ h01 ?_ ?_); rfl; rfl; rfl; rfl; intro Ws hBs hgrs; simp at hBs; have n45 : g4 ≠ g5 := blk_ne hB4 hB5 (by decide); have n25 : g2 ≠ g5 := blk_ne hB2 hB5 (by decide); have hB4s := hB4.grown hgrs (fun e => n45 (Option.some.inj e)); have hB2s := hB2.grown hgrs (fun e => n25 (Option.some.inj e)); have hEs := below_grown hE hgrs h50 hE.size; have c5 := cell_blk hBs; clear hgrs)) | ((go_at_call 89; refine (Tryz.strings_CutSuffix text (S [10]) _ (by omega)).mono ?_; rintro e W89 ⟨rfl, rfl⟩; (obtain ⟨body, hbody⟩ : ∃ body : ByteArray, (⟨(Lib.trimSuffix text.data.toList (S [10]).data.toList).toArray⟩ : ByteArray) = body := ⟨_, rfl⟩); (obtain ⟨isS, hisS⟩ : ∃ b, Lib.hasSuffix text.data.toList (S [10]).data.toList = b := ⟨_, rfl⟩); rw [hbody, hisS]; have Hbody := Lib.hid hbody; have HisS := Lib.hid hisS; clear hbody hisS)) | ((with_reducible refine q_box (d := some 2) ?_); intro W2 g2 hE2 hB2 hg2; simp [Act.eval, Act.put, Value.cells] at hB2; (try replace hE := hE.trans hE2); (try replace hF := hF.ext hE2); (try replace hM := hM.ext hE2); (try replace hB2 := hB2.ext hE2); (try replace hb2_0 := Ext.cell_some hE2 hb2_0); (try replace hb2_1 := Ext.cell_some hE2 hb2_1); (try replace hb2_2 := Ext.cell_some hE2 hb2_2); have hb2_0 := hB2.cell 0; have hb2_1 := hB2.cell 1; have hb2_2 := hB2.cell 2; simp at hb2_0 hb2_1 hb2_2; clear hE2))
      have hbl : body.size ≤ text.size := by
        rw [← Hbody.out]; unfold Lib.trimSuffix; split
        · show (List.toArray _).size ≤ text.data.size
          simp
        · exact Nat.le_refl _
      cases isS with
      | false =>
        have Hn := Lib.hid (show preadAns c text = (⟨0, []⟩, 6) by rw [Hre.out]; have := HisS.out; unfold sheetL; rw [S_list] at this; simp [this])
        refine (pmust_f _).mono ?_
        rintro e W90 ⟨rfl, rfl⟩
        exact read_fail rfl rfl rfl hB4s hBs hEs h40 h50 Hn.out
      | true =>
        have Hb := Lib.hid (show body.data.toList = text.data.toList.take (text.data.toList.length - 1) by rw [← Hbody.out]; have := HisS.out; unfold Lib.trimSuffix; rw [S_list] at *; rw [if_pos this]; simp)
        refine (pmust_t _).mono ?_
        rintro e W90 ⟨rfl, rfl⟩
        have hbs : body.size ≤ 600 := by omega
        go_wp2_with fail
        refine (pSplit_any body 10 _ (hv.ext hEs) (by omega)).mono ?_
        obtain ⟨r, rs, hrs⟩ : ∃ r rs, cutAt 10 body.data.toList = r :: rs := by
          cases h : cutAt 10 body.data.toList with
          | nil => exact absurd h (cutAt_ne _ _)
          | cons r rs => exact ⟨r, rs, rfl⟩
        rw [hrs]
        have hrl : r.length ≤ 600 ∧ rs.length ≤ 600 := by
          have h1 := glue_cut 10 body.data.toList
          have h2 : body.data.toList.length = body.size := by simp
          rw [← h1, hrs] at h2
          have h3 := glue_len 10 r rs
          omega
        obtain ⟨hr1, hr2⟩ := hrl
        have Hrm := Lib.hid (show ∀ (k : Nat) (hk : k < rs.length), rs[k].length ≤ 600 from fun k hk => by
          have := cut_mem (b := 10) (l := body.data.toList) (p := rs[k]) (by rw [hrs]; simp)
          have h2 : body.data.toList.length = body.size := by simp
          omega)
        have Hre2 := Lib.hid (pread_rows (c := c) (text := text) Hre.out (by have := HisS.out; rwa [S_list] at this) Hb.out hrs)
        clear hrs
        rintro e W91 ⟨gr, rfl, hBr, hE91⟩
        replace hEs := Ext.trans hEs hE91; replace hB4s := hB4s.ext hE91; replace hBs := hBs.ext hE91; replace hB2s := hB2s.ext hE91
        have hcr := hBr.cells
        have hlc : (List.map S (r :: rs)).length = rs.length + 1 := by simp
        have e0 := ld_s hcr (k := 0) (by omega)
        have z1 : ((rs.length + 1 : Nat) : Int) = (rs.length : Int) + 1 := by omega
        go_wp2_with (first | ((with_reducible refine q_load (d := some 38) (hl := e0) ?_ ?_); rfl))
        refine (pnumber_any (S r) (by rw [S_size]; omega) _ (hv.ext hEs)).mono ?_
        rw [S_list]
        rintro e W92 ⟨hE92, (⟨n, hn, rfl⟩ | ⟨hn, rfl⟩)⟩
        case inr =>
          exact read_fail rfl rfl rfl (hB4s.ext hE92) (hBs.ext hE92) (Ext.trans hEs hE92) h40 h50 (Hre2.out.1 hn)
        replace hEs := Ext.trans hEs hE92; replace hB4s := hB4s.ext hE92; replace hBs := hBs.ext hE92; replace hB2s := hB2s.ext hE92; replace hBr := hBr.ext hE92
        have Hno := Lib.hid Hre2.out.2.1
        have Hyes := Lib.hid (fun xs => Hre2.out.2.2 n xs hn)
        clear Hre2 hn e0 hcr
        have n4r : g4 ≠ gr := blk_ne hB4s hBr (by decide)
        have n24 : g2 ≠ g4 := blk_ne hB2s hB4s (by decide)
        have hcz : (rs.length : Int) + 1 - 1 = rs.length := by omega
        obtain ⟨ps, hps, hsl⟩ : ∃ p, (0 < rs.length → p = (⟨gr, 1, none⟩ : Addr)) ∧ ∀ w, (Instr.sliceAt 23 (.slice (some ⟨gr, 0, none⟩) (rs.length + 1) (rs.length + 1)) (some (.int .i64 1)) none none).run Tryz.prog w = .ok (.slice (some p) rs.length rs.length) w := run_slice1 gr rs.length (by omega)
        go_wp2_with (first | ((with_reducible refine q_val (rfl) (hsl _) ?_)) | ((with_reducible refine q_store1 (t := 3) (e := 39) (g := g4) (off := 0) (v := .int .i64 n) ?_ ?_ hB4s size3 ?_ ?_ ?_ ?_); rfl; rfl; rfl; simp; rfl; intro W9 hB9 hgr9; simp at hB9; replace hEs := below_grown hEs hgr9 h40 hEs.size; replace hBs := hBs.grown hgr9 (fun e => n45 (Option.some.inj e).symm); replace hB2s := hB2s.grown hgr9 (fun e => n24 (Option.some.inj e)); replace hBr := hBr.grown hgr9 (fun e => n4r (Option.some.inj e).symm)))
        have hrm : ∀ (k : Nat) (hk : k < rs.length), rs[k].length ≤ 600 := Hrm.out
        clear Hrm
        have hcc : c.faults.length ≤ 1000000 ∧ c.man.length ≤ 1000000 := ⟨by have := Ho.out.nf2; omega, by have := Ho.out.nm; omega⟩
        have Hcc := Lib.hid hcc
        have HW2 := Lib.hid (show Ext w W9 ∧ Blk W9 g4 39 #[.int .i64 n, .slice none 0 0] ∧ Blk W9 g5 27 #[.int .i64 0] ∧ Blk W9 g2 25 #[fv, mv, .int .i64 c.all] ∧ Blk W9 gr 9 (encS (List.map S (r :: rs))).toArray from ⟨hEs, hB9, hBs, hB2s, hBr⟩)
        clear hEs hB9 hBs hB2s hBr hcc
        go_loopw [44] (fun i Wr => ∃ (k : Nat) (xs : List Line) (kv : Value), k ≤ rs.length ∧ i = .int .i64 k ∧ linesL c (rs.take k) = some xs ∧ Ext w Wr ∧ Blk Wr g4 39 #[.int .i64 n, kv] ∧ Blk Wr g5 27 #[.int .i64 0] ∧ Blk Wr g2 25 #[fv, mv, .int .i64 c.all] ∧ Blk Wr gr 9 (encS (List.map S (r :: rs))).toArray ∧ OwnL w.heap.size Wr kv xs) (fun i _ => rs.length - (intOf i).toNat)
        case atStart => exact ⟨0, [], _, by omega, rfl, rfl, HW2.out.1, HW2.out.2.1, HW2.out.2.2.1, HW2.out.2.2.2.1, HW2.out.2.2.2.2, OwnL.nil _ _⟩
        case round =>
          obtain ⟨k, xs, kv, hk, rfl, hxs, hEr, hB4r, hB5r, hB2r, hBr, hO⟩ := hrel
          clear HW2
          obtain ⟨Ak, ck, rfl, _, _, _⟩ := hO.lines
          have hxl : xs.length ≤ 700 := by have := linesL_len hxs; rw [List.length_take] at this; omega
          have Hxs := Lib.hid hxs
          clear hxs
          by_cases hlt : k < rs.length
          · have z2 : IntKind.i64.wrap ((k : Int) + 1) = (k : Int) + 1 := IntWalk.i64_in _ (by omega)
            obtain rfl := hps (by omega)
            have eR : (loadVar 9 (⟨gr, 1 + k, none⟩ : Addr)).run Tryz.prog wr = .ok (.string (S rs[k])) wr :=
              load_one Tryz.underlying9 rfl ((hBr.cell (1 + k)).trans (by rw [Nat.add_comm]; simp [encS, List.getElem?_eq_getElem hlt]))
            have hkl := hrm k hlt
            obtain ⟨row, hrow⟩ : ∃ x, rs[k] = x := ⟨_, rfl⟩
            have Hln := Lib.hid (fun h => linesL_none (c := c) hlt h)
            have Hls := Lib.hid (fun x h => linesL_snoc (c := c) (x := x) hlt Hxs.out h)
            rw [hrow] at eR hkl Hln Hls
            clear hrm hrow hps hsl
            go_wp2_with (first | ((with_reducible refine q_load (d := some 47) (hl := eR) ?_ ?_); rfl))
            refine (pSplit_any (S row) 32 _ (hv.ext hEr) (by rw [S_size]; omega)).mono ?_
            rw [S_list]
            rintro e Wc ⟨gw, rfl, hBw, hEc⟩
            replace hEr := Ext.trans hEr hEc; replace hB4r := hB4r.ext hEc; replace hB5r := hB5r.ext hEc; replace hB2r := hB2r.ext hEc; replace hBr := hBr.ext hEc; replace hO := OwnL.ext hO hEc
            clear eR
            by_cases h3 : (cutAt 32 row).length = 3
            · obtain ⟨p, q, y, hpq⟩ : ∃ p q y, cutAt 32 row = [p, q, y] := by
                match hc : cutAt 32 row, h3 with
                | [p, q, y], _ => exact ⟨p, q, y, rfl⟩
              rw [hpq] at hBw ⊢
              have hm1 := cut_mem (b := 32) (l := row) (p := p) (by rw [hpq]; simp)
              have hm2 := cut_mem (b := 32) (l := row) (p := q) (by rw [hpq]; simp)
              have hm3 := cut_mem (b := 32) (l := row) (p := y) (by rw [hpq]; simp)
              rw [lineL_3 hpq] at Hln Hls
              clear h3 hpq
              go_wp2_with (first | (go_at_call 90; refine (pmust_t _).mono ?_; rintro e W90 ⟨rfl, rfl⟩))
              have hdr := Ext.todrew (Ext.refl W90)
              have n4w := blk_ne hB4r hBw (by decide); have n2w := blk_ne hB2r hBw (by decide); have n42 := blk_ne hB4r hB2r (by decide)
              replace hEr := Ext.trans hEr hdr; replace hB4r := hB4r.d; replace hB5r := hB5r.d; replace hB2r := hB2r.d; replace hBr := hBr.d; replace hBw := hBw.d; replace hO := OwnL.ext hO hdr
              have d0 := hB2r.cell 0; have d1 := hB2r.cell 1; have d2 := hB2r.cell 2; have w0 := hBw.cell 0; have w1 := hBw.cell 1; have w2 := hBw.cell 2; simp [encS] at d0 d1 d2 w0 w1 w2
              refine wp_region_treeD (.take 0 (.take 2 (.take 3 (.take 4 (.take 6 (.take 8 (.take 9 (.take 10 (.take 12 (.take 13 (.take 14 (.two 1 (.one 5 (.one 7 (.one 11 (.one 15 (.take 16 (.one 17 (.one 18 (.take 19 (.one 20 .nil))))))))) 5 (.two 1 (.one 7 (.one 11 (.one 15 (.take 16 (.one 17 (.one 18 (.take 19 (.one 20 .nil)))))))) 7 (.two 1 (.one 11 (.one 15 (.take 16 (.one 17 (.one 18 (.take 19 (.one 20 .nil))))))) 11 (.two 1 (.one 15 (.take 16 (.one 17 (.one 18 (.take 19 (.one 20 .nil)))))) 15 (.take 16 (.two 1 (.one 17 (.one 18 (.take 19 (.one 20 .nil)))) 17 (.one 1 (.one 18 (.take 19 (.one 20 .nil))))))))))))))))))))) (fun w' => w'.cell? ⟨g2, 0, none⟩ = some fv ∧ w'.cell? ⟨g2, 1, none⟩ = some mv ∧ w'.cell? ⟨g2, 2, none⟩ = some (.int .i64 c.all) ∧ w'.cell? ⟨gw, 0, none⟩ = some (.string (S p)) ∧ w'.cell? ⟨gw, 1, none⟩ = some (.string (S q)) ∧ w'.cell? ⟨gw, 2, none⟩ = some (.string (S y))) (fun d => d != 4 && d != 5) (by kernel_rfl) (by kernel_rfl) (by kernel_rfl) (by kernel_rfl) (by kernel_rfl) (fun c a d v w hd h => pan40 hd h) ?_ (fun hHeld => ?_)
              · (first | exact True.intro | ((try dsimp only); (repeat' apply And.intro) <;> first | assumption | (refine Ext.cell_some (Ext.todrew (Ext.refl _)) ?_; assumption)))
              refine t_take (i := 0) (v := ?_) (by (simp only [List.getElem?_toArray, List.getElem?_cons_succ, List.getElem?_cons_zero]); rfl) (by rfl) ?_ (by exact hHeld) ?_
              rotate_left
              · (intro wq hSw; (try dsimp only at hSw); go_simp; (try with_reducible rfl))
              (try simp only [Act.put, List.setIfInBounds_toArray, List.set_cons_zero, List.set_cons_succ])
              refine t_take (i := 2) (v := ?_) (by (simp only [List.getElem?_toArray, List.getElem?_cons_succ, List.getElem?_cons_zero]); rfl) (by rfl) ?_ (by exact hHeld) ?_
              rotate_left
              · (intro wq hSw; (try dsimp only at hSw); go_simp; (try with_reducible rfl))
              (try simp only [Act.put, List.setIfInBounds_toArray, List.set_cons_zero, List.set_cons_succ])
              refine t_take (i := 3) (v := ?_) (by (simp only [List.getElem?_toArray, List.getElem?_cons_succ, List.getElem?_cons_zero]); rfl) (by rfl) ?_ (by exact hHeld) ?_
              rotate_left
              · (intro wq hSw; (try dsimp only at hSw); go_simp; (try with_reducible rfl))
              (try simp only [Act.put, List.setIfInBounds_toArray, List.set_cons_zero, List.set_cons_succ])
              refine t_take (i := 4) (v := ?_) (by (simp only [List.getElem?_toArray, List.getElem?_cons_succ, List.getElem?_cons_zero]); rfl) (by rfl) ?_ (by exact hHeld) ?_
              rotate_left
              · (intro wq hSw; (try dsimp only at hSw); go_simp; (try with_reducible rfl))
              (try simp only [Act.put, List.setIfInBounds_toArray, List.set_cons_zero, List.set_cons_succ])
              refine t_take (i := 6) (v := ?_) (by (simp only [List.getElem?_toArray, List.getElem?_cons_succ, List.getElem?_cons_zero]); rfl) (by rfl) ?_ (by exact hHeld) ?_
              rotate_left
              · (intro wq hSw; (try dsimp only at hSw); go_simp; (try with_reducible rfl))
              (try simp only [Act.put, List.setIfInBounds_toArray, List.set_cons_zero, List.set_cons_succ])
              refine t_take (i := 8) (v := ?_) (by (simp only [List.getElem?_toArray, List.getElem?_cons_succ, List.getElem?_cons_zero]); rfl) (by rfl) ?_ (by exact hHeld) ?_
              rotate_left
              · (intro wq hSw; (try dsimp only at hSw); go_simp; (try with_reducible rfl))
              (try simp only [Act.put, List.setIfInBounds_toArray, List.set_cons_zero, List.set_cons_succ])
              refine t_take (i := 9) (v := ?_) (by (simp only [List.getElem?_toArray, List.getElem?_cons_succ, List.getElem?_cons_zero]); rfl) (by rfl) ?_ (by exact hHeld) ?_
              rotate_left
              · (intro wq hSw; (try dsimp only at hSw); go_simp; (try with_reducible rfl))
              (try simp only [Act.put, List.setIfInBounds_toArray, List.set_cons_zero, List.set_cons_succ])
              refine t_take (i := 10) (v := ?_) (by (simp only [List.getElem?_toArray, List.getElem?_cons_succ, List.getElem?_cons_zero]); rfl) (by rfl) ?_ (by exact hHeld) ?_
              rotate_left
              · (intro wq hSw; (try dsimp only at hSw); go_simp; (try with_reducible rfl))
              (try simp only [Act.put, List.setIfInBounds_toArray, List.set_cons_zero, List.set_cons_succ])
              refine t_take (i := 12) (v := ?_) (by (simp only [List.getElem?_toArray, List.getElem?_cons_succ, List.getElem?_cons_zero]); rfl) (by rfl) ?_ (by exact hHeld) ?_
              rotate_left
              · (intro wq hSw; (try dsimp only at hSw); go_simp; (try with_reducible rfl))
              (try simp only [Act.put, List.setIfInBounds_toArray, List.set_cons_zero, List.set_cons_succ])
              refine t_take (i := 13) (v := ?_) (by (simp only [List.getElem?_toArray, List.getElem?_cons_succ, List.getElem?_cons_zero]); rfl) (by rfl) ?_ (by exact hHeld) ?_
              rotate_left
              · (intro wq hSw; (try dsimp only at hSw); go_simp; (try with_reducible rfl))
              (try simp only [Act.put, List.setIfInBounds_toArray, List.set_cons_zero, List.set_cons_succ])
              refine t_take (i := 14) (v := ?_) (by (simp only [List.getElem?_toArray, List.getElem?_cons_succ, List.getElem?_cons_zero]); rfl) (by rfl) ?_ (by exact hHeld) ?_
              rotate_left
              · (intro wq hSw; (try dsimp only at hSw); go_simp; (try with_reducible rfl))
              (try simp only [Act.put, List.setIfInBounds_toArray, List.set_cons_zero, List.set_cons_succ])
              refine t_two (i := 1) (j := 5) (by (simp only [List.getElem?_toArray, List.getElem?_cons_succ, List.getElem?_cons_zero]); rfl) (by (simp only [List.getElem?_toArray, List.getElem?_cons_succ, List.getElem?_cons_zero]); rfl) ?_ ?_
              · (((with_reducible refine q_load (d := some 55) (p := ⟨g4, 1, none⟩) (v := .slice Ak xs.length ck) ?_ ?_ ?_); rfl; exact load_one Tryz.underlying37 rfl ((hB4r.cell 1).trans rfl)))
                clear hHeld; refine t_next ?_ (fun hHeld => ?_)
                · (first | exact True.intro | ((try dsimp only); (repeat' apply And.intro) <;> first | assumption | (refine Ext.cell_some (Ext.todrew (Ext.refl _)) ?_; assumption)))
                (try simp only [Act.put, List.setIfInBounds_toArray, List.set_cons_zero, List.set_cons_succ])
                refine t_one (i := 5) (by (simp only [List.getElem?_toArray, List.getElem?_cons_succ, List.getElem?_cons_zero]); rfl) ?_
                ((refine q_num (by rfl) (s := p) (by omega) (hv.ext hEr) (by go_simp) ?_ ?_; rotate_left; (intro Wp hn_ hEp; (show bodyPostD Tryz.prog Tryz.f40 (RetSI w (preadAns c text).1 (preadAns c text).2) (.panic noForm) _ _); exact read_fail rfl rfl rfl (hB4r.ext hEp) (hB5r.ext hEp) (Ext.trans hEr hEp) h40 h50 (Hno.out (Hln.out (by rw [hn_]; rfl)))); intro x Wa hx hEa; replace hEr := Ext.trans hEr hEa; replace hB4r := hB4r.ext hEa; replace hB5r := hB5r.ext hEa; replace hB2r := hB2r.ext hEa; replace hBr := hBr.ext hEa; replace hBw := hBw.ext hEa; replace hO := OwnL.ext hO hEa; have d0 := hB2r.cell 0; have d1 := hB2r.cell 1; have d2 := hB2r.cell 2; have w0 := hBw.cell 0; have w1 := hBw.cell 1; have w2 := hBw.cell 2; simp [encS] at d0 d1 d2 w0 w1 w2))
                clear hHeld; refine t_next ?_ (fun hHeld => ?_)
                · (first | exact True.intro | ((try dsimp only); (repeat' apply And.intro) <;> first | assumption | (refine Ext.cell_some (Ext.todrew (Ext.refl _)) ?_; assumption)))
                (try simp only [Act.put, List.setIfInBounds_toArray, List.set_cons_zero, List.set_cons_succ])
                refine t_one (i := 7) (by (simp only [List.getElem?_toArray, List.getElem?_cons_succ, List.getElem?_cons_zero]); rfl) ?_
                ((refine q_call (by rfl) (PNames_any _ c _ (CodeV.of (hFw.ext hEr) (hMw.ext hEr) HW.out) Hcc.out) (by go_simp) ?_; rintro e W53 ⟨nv, rfl, hN, hE53⟩; refine ⟨_, rfl, ?_⟩; replace hEr := Ext.trans hEr hE53; replace hB4r := hB4r.ext hE53; replace hB5r := hB5r.ext hE53; replace hB2r := hB2r.ext hE53; replace hBr := hBr.ext hE53; replace hBw := hBw.ext hE53; replace hO := OwnL.ext hO hE53; have d0 := hB2r.cell 0; have d1 := hB2r.cell 1; have d2 := hB2r.cell 2; have w0 := hBw.cell 0; have w1 := hBw.cell 1; have w2 := hBw.cell 2; simp [encS] at d0 d1 d2 w0 w1 w2))
                clear hHeld; refine t_next ?_ (fun hHeld => ?_)
                · (first | exact True.intro | ((try dsimp only); (repeat' apply And.intro) <;> first | assumption | (refine Ext.cell_some (Ext.todrew (Ext.refl _)) ?_; assumption)))
                (try simp only [Act.put, List.setIfInBounds_toArray, List.set_cons_zero, List.set_cons_succ])
                refine t_one (i := 11) (by (simp only [List.getElem?_toArray, List.getElem?_cons_succ, List.getElem?_cons_zero]); rfl) ?_
                ((refine q_call (by rfl) (IndexS_any _ c.names (S q) _ hN.strs) (by go_simp) ?_; rintro e W65 ⟨rfl, rfl⟩; refine ⟨_, rfl, ?_⟩))
                clear hHeld; refine t_next ?_ (fun hHeld => ?_)
                · (first | exact True.intro | ((try dsimp only); (repeat' apply And.intro) <;> first | assumption | (refine Ext.cell_some (Ext.todrew (Ext.refl _)) ?_; assumption)))
                (try simp only [Act.put, List.setIfInBounds_toArray, List.set_cons_zero, List.set_cons_succ])
                refine t_one (i := 15) (by (simp only [List.getElem?_toArray, List.getElem?_cons_succ, List.getElem?_cons_zero]); rfl) ?_
                ((refine q_num (by rfl) (s := y) (by omega) (hv.ext hEr) (by go_simp) ?_ ?_; rotate_left; (intro Wp hn_ hEp; (show bodyPostD Tryz.prog Tryz.f40 (RetSI w (preadAns c text).1 (preadAns c text).2) (.panic noForm) _ _); exact read_fail rfl rfl rfl (hB4r.ext hEp) (hB5r.ext hEp) (Ext.trans hEr hEp) h40 h50 (Hno.out (Hln.out (by rw [hx, hn_]; rfl)))); intro z Wd hz hEd; replace hEr := Ext.trans hEr hEd; replace hB4r := hB4r.ext hEd; replace hB5r := hB5r.ext hEd; replace hB2r := hB2r.ext hEd; replace hBr := hBr.ext hEd; replace hBw := hBw.ext hEd; replace hO := OwnL.ext hO hEd; have d0 := hB2r.cell 0; have d1 := hB2r.cell 1; have d2 := hB2r.cell 2; have w0 := hBw.cell 0; have w1 := hBw.cell 1; have w2 := hBw.cell 2; simp [encS] at d0 d1 d2 w0 w1 w2))
                clear hHeld; refine t_next ?_ (fun hHeld => ?_)
                · (first | exact True.intro | ((try dsimp only); (repeat' apply And.intro) <;> first | assumption | (refine Ext.cell_some (Ext.todrew (Ext.refl _)) ?_; assumption)))
                (try simp only [Act.put, List.setIfInBounds_toArray, List.set_cons_zero, List.set_cons_succ])
                refine t_take (i := 16) (v := ?_) (by (simp only [List.getElem?_toArray, List.getElem?_cons_succ, List.getElem?_cons_zero]); rfl) (by rfl) ?_ (by exact hHeld) ?_
                rotate_left
                · (intro wq hSw; (try dsimp only at hSw); go_simp; (try with_reducible rfl))
                (try simp only [Act.put, List.setIfInBounds_toArray, List.set_cons_zero, List.set_cons_succ])
                refine t_one (i := 17) (by (simp only [List.getElem?_toArray, List.getElem?_cons_succ, List.getElem?_cons_zero]); rfl) ?_
                (((with_reducible refine q_bsL (d := some 71) (p := x) (q := idxP (fun u => decide (S q = u)) c.names) (r := z) ?_ ?_); rfl; intro W71 g71 hE71 hB71 hg71; replace hEr := Ext.trans hEr hE71; replace hB4r := hB4r.ext hE71; replace hB5r := hB5r.ext hE71; replace hB2r := hB2r.ext hE71; replace hBr := hBr.ext hE71; replace hBw := hBw.ext hE71; replace hO := OwnL.ext hO hE71; have d0 := hB2r.cell 0; have d1 := hB2r.cell 1; have d2 := hB2r.cell 2; have w0 := hBw.cell 0; have w1 := hBw.cell 1; have w2 := hBw.cell 2; simp [encS] at d0 d1 d2 w0 w1 w2))
                clear hHeld; refine t_next ?_ (fun hHeld => ?_)
                · (first | exact True.intro | ((try dsimp only); (repeat' apply And.intro) <;> first | assumption | (refine Ext.cell_some (Ext.todrew (Ext.refl _)) ?_; assumption)))
                (try simp only [Act.put, List.setIfInBounds_toArray, List.set_cons_zero, List.set_cons_succ])
                refine t_one (i := 18) (by (simp only [List.getElem?_toArray, List.getElem?_cons_succ, List.getElem?_cons_zero]); rfl) ?_
                (((with_reducible refine q_appL (d := some 72) (y := ⟨x, idxP (fun u => decide (S q = u)) c.names, z⟩) ?_ hO ?_ hB71 ?_ ?_ ?_); rfl; rfl; omega; exact hEr.size; intro v72 W72 hO72 hm72 hgr72; replace hEr := hm72 _ hEr; replace hB4r := hB4r.grown hgr72 (Blk.notown hB4r hO (.inl (by decide))); replace hB5r := hB5r.grown hgr72 (Blk.notown hB5r hO (.inl (by decide))); replace hB2r := hB2r.grown hgr72 (Blk.notown hB2r hO (.inl (by decide))); replace hBr := hBr.grown hgr72 (Blk.notown hBr hO (.inl (by decide))); replace hBw := hBw.grown hgr72 (Blk.notown hBw hO (.inl (by decide))); have d0 := hB2r.cell 0; have d1 := hB2r.cell 1; have d2 := hB2r.cell 2; have w0 := hBw.cell 0; have w1 := hBw.cell 1; have w2 := hBw.cell 2; simp [encS] at d0 d1 d2 w0 w1 w2; obtain ⟨A72, c72, e72, _, _, _⟩ := hO72.lines; have E72 := Lib.hid e72; clear e72))
                clear hHeld; refine t_next ?_ (fun hHeld => ?_)
                · (first | exact True.intro | ((try dsimp only); (repeat' apply And.intro) <;> first | assumption | (refine Ext.cell_some (Ext.todrew (Ext.refl _)) ?_; assumption)))
                (try simp only [Act.put, List.setIfInBounds_toArray, List.set_cons_zero, List.set_cons_succ])
                refine t_take (i := 19) (v := ?_) (by (simp only [List.getElem?_toArray, List.getElem?_cons_succ, List.getElem?_cons_zero]); rfl) (by rfl) ?_ (by exact hHeld) ?_
                rotate_left
                · (intro wq hSw; (try dsimp only at hSw); go_simp; (try with_reducible rfl))
                (try simp only [Act.put, List.setIfInBounds_toArray, List.set_cons_zero, List.set_cons_succ])
                refine t_one (i := 20) (by (simp only [List.getElem?_toArray, List.getElem?_cons_succ, List.getElem?_cons_zero]); rfl) ?_
                (((with_reducible refine q_store1 (t := 37) (e := 39) (g := g4) (off := 1) (v := v72) ?_ ?_ hB4r size37 ?_ ?_ ?_ ?_); rfl; rfl; (rw [E72.out]; rfl); simp; (rw [E72.out]; rfl); intro Ws hBs hgrs; simp at hBs; replace hEr := below_grown hEr hgrs h40 hEr.size; replace hB5r := hB5r.grown hgrs (fun e => n45 (Option.some.inj e).symm); replace hB2r := hB2r.grown hgrs (fun e => n42 (Option.some.inj e).symm); replace hBr := hBr.grown hgrs (fun e => n4r (Option.some.inj e).symm); replace hBw := hBw.grown hgrs (fun e => n4w (Option.some.inj e).symm); have d0 := hB2r.cell 0; have d1 := hB2r.cell 1; have d2 := hB2r.cell 2; have w0 := hBw.cell 0; have w1 := hBw.cell 1; have w2 := hBw.cell 2; simp [encS] at d0 d1 d2 w0 w1 w2; replace hO72 := own_grown hO72 hgrs (own_ne hO72 hB4r (.inl (by decide)))))
                clear hHeld; refine t_next ?_ (fun hHeld => ?_)
                · (first | exact True.intro | ((try dsimp only); (repeat' apply And.intro) <;> first | assumption | (refine Ext.cell_some (Ext.todrew (Ext.refl _)) ?_; assumption)))
                (try simp only [Act.put, List.setIfInBounds_toArray, List.set_cons_zero, List.set_cons_succ])
                refine t_done ?_
                (go_wp2; go_roundw; (case rel => exact ⟨k + 1, xs ++ [⟨x, idxP (fun u => decide (S q = u)) c.names, z⟩], _, by omega, by go_num, Hls.out ⟨x, idxP (fun u => decide (S q = u)) c.names, z⟩ (by rw [hx, hz]; rfl), hEr, hBs, hB5r, hB2r, hBr, (show OwnL w.heap.size Ws v72 (xs ++ [⟨x, idxP (fun u => decide (S q = u)) c.names, z⟩]) from hO72)⟩); (case measure => (simp [intOf]; omega)))
              · ((refine q_num (by rfl) (s := p) (by omega) (hv.ext hEr) (by go_simp) ?_ ?_; rotate_left; (intro Wp hn_ hEp; (show bodyPostD Tryz.prog Tryz.f40 (RetSI w (preadAns c text).1 (preadAns c text).2) (.panic noForm) _ _); exact read_fail rfl rfl rfl (hB4r.ext hEp) (hB5r.ext hEp) (Ext.trans hEr hEp) h40 h50 (Hno.out (Hln.out (by rw [hn_]; rfl)))); intro x Wa hx hEa; replace hEr := Ext.trans hEr hEa; replace hB4r := hB4r.ext hEa; replace hB5r := hB5r.ext hEa; replace hB2r := hB2r.ext hEa; replace hBr := hBr.ext hEa; replace hBw := hBw.ext hEa; replace hO := OwnL.ext hO hEa; have d0 := hB2r.cell 0; have d1 := hB2r.cell 1; have d2 := hB2r.cell 2; have w0 := hBw.cell 0; have w1 := hBw.cell 1; have w2 := hBw.cell 2; simp [encS] at d0 d1 d2 w0 w1 w2))
                clear hHeld; refine t_next ?_ (fun hHeld => ?_)
                · (first | exact True.intro | ((try dsimp only); (repeat' apply And.intro) <;> first | assumption | (refine Ext.cell_some (Ext.todrew (Ext.refl _)) ?_; assumption)))
                (try simp only [Act.put, List.setIfInBounds_toArray, List.set_cons_zero, List.set_cons_succ])
                refine t_two (i := 1) (j := 7) (by (simp only [List.getElem?_toArray, List.getElem?_cons_succ, List.getElem?_cons_zero]); rfl) (by (simp only [List.getElem?_toArray, List.getElem?_cons_succ, List.getElem?_cons_zero]); rfl) ?_ ?_
                · (((with_reducible refine q_load (d := some 55) (p := ⟨g4, 1, none⟩) (v := .slice Ak xs.length ck) ?_ ?_ ?_); rfl; exact load_one Tryz.underlying37 rfl ((hB4r.cell 1).trans rfl)))
                  clear hHeld; refine t_next ?_ (fun hHeld => ?_)
                  · (first | exact True.intro | ((try dsimp only); (repeat' apply And.intro) <;> first | assumption | (refine Ext.cell_some (Ext.todrew (Ext.refl _)) ?_; assumption)))
                  (try simp only [Act.put, List.setIfInBounds_toArray, List.set_cons_zero, List.set_cons_succ])
                  refine t_one (i := 7) (by (simp only [List.getElem?_toArray, List.getElem?_cons_succ, List.getElem?_cons_zero]); rfl) ?_
                  ((refine q_call (by rfl) (PNames_any _ c _ (CodeV.of (hFw.ext hEr) (hMw.ext hEr) HW.out) Hcc.out) (by go_simp) ?_; rintro e W53 ⟨nv, rfl, hN, hE53⟩; refine ⟨_, rfl, ?_⟩; replace hEr := Ext.trans hEr hE53; replace hB4r := hB4r.ext hE53; replace hB5r := hB5r.ext hE53; replace hB2r := hB2r.ext hE53; replace hBr := hBr.ext hE53; replace hBw := hBw.ext hE53; replace hO := OwnL.ext hO hE53; have d0 := hB2r.cell 0; have d1 := hB2r.cell 1; have d2 := hB2r.cell 2; have w0 := hBw.cell 0; have w1 := hBw.cell 1; have w2 := hBw.cell 2; simp [encS] at d0 d1 d2 w0 w1 w2))
                  clear hHeld; refine t_next ?_ (fun hHeld => ?_)
                  · (first | exact True.intro | ((try dsimp only); (repeat' apply And.intro) <;> first | assumption | (refine Ext.cell_some (Ext.todrew (Ext.refl _)) ?_; assumption)))
                  (try simp only [Act.put, List.setIfInBounds_toArray, List.set_cons_zero, List.set_cons_succ])
                  refine t_one (i := 11) (by (simp only [List.getElem?_toArray, List.getElem?_cons_succ, List.getElem?_cons_zero]); rfl) ?_
                  ((refine q_call (by rfl) (IndexS_any _ c.names (S q) _ hN.strs) (by go_simp) ?_; rintro e W65 ⟨rfl, rfl⟩; refine ⟨_, rfl, ?_⟩))
                  clear hHeld; refine t_next ?_ (fun hHeld => ?_)
                  · (first | exact True.intro | ((try dsimp only); (repeat' apply And.intro) <;> first | assumption | (refine Ext.cell_some (Ext.todrew (Ext.refl _)) ?_; assumption)))
                  (try simp only [Act.put, List.setIfInBounds_toArray, List.set_cons_zero, List.set_cons_succ])
                  refine t_one (i := 15) (by (simp only [List.getElem?_toArray, List.getElem?_cons_succ, List.getElem?_cons_zero]); rfl) ?_
                  ((refine q_num (by rfl) (s := y) (by omega) (hv.ext hEr) (by go_simp) ?_ ?_; rotate_left; (intro Wp hn_ hEp; (show bodyPostD Tryz.prog Tryz.f40 (RetSI w (preadAns c text).1 (preadAns c text).2) (.panic noForm) _ _); exact read_fail rfl rfl rfl (hB4r.ext hEp) (hB5r.ext hEp) (Ext.trans hEr hEp) h40 h50 (Hno.out (Hln.out (by rw [hx, hn_]; rfl)))); intro z Wd hz hEd; replace hEr := Ext.trans hEr hEd; replace hB4r := hB4r.ext hEd; replace hB5r := hB5r.ext hEd; replace hB2r := hB2r.ext hEd; replace hBr := hBr.ext hEd; replace hBw := hBw.ext hEd; replace hO := OwnL.ext hO hEd; have d0 := hB2r.cell 0; have d1 := hB2r.cell 1; have d2 := hB2r.cell 2; have w0 := hBw.cell 0; have w1 := hBw.cell 1; have w2 := hBw.cell 2; simp [encS] at d0 d1 d2 w0 w1 w2))
                  clear hHeld; refine t_next ?_ (fun hHeld => ?_)
                  · (first | exact True.intro | ((try dsimp only); (repeat' apply And.intro) <;> first | assumption | (refine Ext.cell_some (Ext.todrew (Ext.refl _)) ?_; assumption)))
                  (try simp only [Act.put, List.setIfInBounds_toArray, List.set_cons_zero, List.set_cons_succ])
                  refine t_take (i := 16) (v := ?_) (by (simp only [List.getElem?_toArray, List.getElem?_cons_succ, List.getElem?_cons_zero]); rfl) (by rfl) ?_ (by exact hHeld) ?_
                  rotate_left
                  · (intro wq hSw; (try dsimp only at hSw); go_simp; (try with_reducible rfl))
                  (try simp only [Act.put, List.setIfInBounds_toArray, List.set_cons_zero, List.set_cons_succ])
                  refine t_one (i := 17) (by (simp only [List.getElem?_toArray, List.getElem?_cons_succ, List.getElem?_cons_zero]); rfl) ?_
                  (((with_reducible refine q_bsL (d := some 71) (p := x) (q := idxP (fun u => decide (S q = u)) c.names) (r := z) ?_ ?_); rfl; intro W71 g71 hE71 hB71 hg71; replace hEr := Ext.trans hEr hE71; replace hB4r := hB4r.ext hE71; replace hB5r := hB5r.ext hE71; replace hB2r := hB2r.ext hE71; replace hBr := hBr.ext hE71; replace hBw := hBw.ext hE71; replace hO := OwnL.ext hO hE71; have d0 := hB2r.cell 0; have d1 := hB2r.cell 1; have d2 := hB2r.cell 2; have w0 := hBw.cell 0; have w1 := hBw.cell 1; have w2 := hBw.cell 2; simp [encS] at d0 d1 d2 w0 w1 w2))
                  clear hHeld; refine t_next ?_ (fun hHeld => ?_)
                  · (first | exact True.intro | ((try dsimp only); (repeat' apply And.intro) <;> first | assumption | (refine Ext.cell_some (Ext.todrew (Ext.refl _)) ?_; assumption)))
                  (try simp only [Act.put, List.setIfInBounds_toArray, List.set_cons_zero, List.set_cons_succ])
                  refine t_one (i := 18) (by (simp only [List.getElem?_toArray, List.getElem?_cons_succ, List.getElem?_cons_zero]); rfl) ?_
                  (((with_reducible refine q_appL (d := some 72) (y := ⟨x, idxP (fun u => decide (S q = u)) c.names, z⟩) ?_ hO ?_ hB71 ?_ ?_ ?_); rfl; rfl; omega; exact hEr.size; intro v72 W72 hO72 hm72 hgr72; replace hEr := hm72 _ hEr; replace hB4r := hB4r.grown hgr72 (Blk.notown hB4r hO (.inl (by decide))); replace hB5r := hB5r.grown hgr72 (Blk.notown hB5r hO (.inl (by decide))); replace hB2r := hB2r.grown hgr72 (Blk.notown hB2r hO (.inl (by decide))); replace hBr := hBr.grown hgr72 (Blk.notown hBr hO (.inl (by decide))); replace hBw := hBw.grown hgr72 (Blk.notown hBw hO (.inl (by decide))); have d0 := hB2r.cell 0; have d1 := hB2r.cell 1; have d2 := hB2r.cell 2; have w0 := hBw.cell 0; have w1 := hBw.cell 1; have w2 := hBw.cell 2; simp [encS] at d0 d1 d2 w0 w1 w2; obtain ⟨A72, c72, e72, _, _, _⟩ := hO72.lines; have E72 := Lib.hid e72; clear e72))
                  clear hHeld; refine t_next ?_ (fun hHeld => ?_)
                  · (first | exact True.intro | ((try dsimp only); (repeat' apply And.intro) <;> first | assumption | (refine Ext.cell_some (Ext.todrew (Ext.refl _)) ?_; assumption)))
                  (try simp only [Act.put, List.setIfInBounds_toArray, List.set_cons_zero, List.set_cons_succ])
                  refine t_take (i := 19) (v := ?_) (by (simp only [List.getElem?_toArray, List.getElem?_cons_succ, List.getElem?_cons_zero]); rfl) (by rfl) ?_ (by exact hHeld) ?_
                  rotate_left
                  · (intro wq hSw; (try dsimp only at hSw); go_simp; (try with_reducible rfl))
                  (try simp only [Act.put, List.setIfInBounds_toArray, List.set_cons_zero, List.set_cons_succ])
                  refine t_one (i := 20) (by (simp only [List.getElem?_toArray, List.getElem?_cons_succ, List.getElem?_cons_zero]); rfl) ?_
                  (((with_reducible refine q_store1 (t := 37) (e := 39) (g := g4) (off := 1) (v := v72) ?_ ?_ hB4r size37 ?_ ?_ ?_ ?_); rfl; rfl; (rw [E72.out]; rfl); simp; (rw [E72.out]; rfl); intro Ws hBs hgrs; simp at hBs; replace hEr := below_grown hEr hgrs h40 hEr.size; replace hB5r := hB5r.grown hgrs (fun e => n45 (Option.some.inj e).symm); replace hB2r := hB2r.grown hgrs (fun e => n42 (Option.some.inj e).symm); replace hBr := hBr.grown hgrs (fun e => n4r (Option.some.inj e).symm); replace hBw := hBw.grown hgrs (fun e => n4w (Option.some.inj e).symm); have d0 := hB2r.cell 0; have d1 := hB2r.cell 1; have d2 := hB2r.cell 2; have w0 := hBw.cell 0; have w1 := hBw.cell 1; have w2 := hBw.cell 2; simp [encS] at d0 d1 d2 w0 w1 w2; replace hO72 := own_grown hO72 hgrs (own_ne hO72 hB4r (.inl (by decide)))))
                  clear hHeld; refine t_next ?_ (fun hHeld => ?_)
                  · (first | exact True.intro | ((try dsimp only); (repeat' apply And.intro) <;> first | assumption | (refine Ext.cell_some (Ext.todrew (Ext.refl _)) ?_; assumption)))
                  (try simp only [Act.put, List.setIfInBounds_toArray, List.set_cons_zero, List.set_cons_succ])
                  refine t_done ?_
                  (go_wp2; go_roundw; (case rel => exact ⟨k + 1, xs ++ [⟨x, idxP (fun u => decide (S q = u)) c.names, z⟩], _, by omega, by go_num, Hls.out ⟨x, idxP (fun u => decide (S q = u)) c.names, z⟩ (by rw [hx, hz]; rfl), hEr, hBs, hB5r, hB2r, hBr, (show OwnL w.heap.size Ws v72 (xs ++ [⟨x, idxP (fun u => decide (S q = u)) c.names, z⟩]) from hO72)⟩); (case measure => (simp [intOf]; omega)))
                · ((refine q_call (by rfl) (PNames_any _ c _ (CodeV.of (hFw.ext hEr) (hMw.ext hEr) HW.out) Hcc.out) (by go_simp) ?_; rintro e W53 ⟨nv, rfl, hN, hE53⟩; refine ⟨_, rfl, ?_⟩; replace hEr := Ext.trans hEr hE53; replace hB4r := hB4r.ext hE53; replace hB5r := hB5r.ext hE53; replace hB2r := hB2r.ext hE53; replace hBr := hBr.ext hE53; replace hBw := hBw.ext hE53; replace hO := OwnL.ext hO hE53; have d0 := hB2r.cell 0; have d1 := hB2r.cell 1; have d2 := hB2r.cell 2; have w0 := hBw.cell 0; have w1 := hBw.cell 1; have w2 := hBw.cell 2; simp [encS] at d0 d1 d2 w0 w1 w2))
                  clear hHeld; refine t_next ?_ (fun hHeld => ?_)
                  · (first | exact True.intro | ((try dsimp only); (repeat' apply And.intro) <;> first | assumption | (refine Ext.cell_some (Ext.todrew (Ext.refl _)) ?_; assumption)))
                  (try simp only [Act.put, List.setIfInBounds_toArray, List.set_cons_zero, List.set_cons_succ])
                  refine t_two (i := 1) (j := 11) (by (simp only [List.getElem?_toArray, List.getElem?_cons_succ, List.getElem?_cons_zero]); rfl) (by (simp only [List.getElem?_toArray, List.getElem?_cons_succ, List.getElem?_cons_zero]); rfl) ?_ ?_
                  · (((with_reducible refine q_load (d := some 55) (p := ⟨g4, 1, none⟩) (v := .slice Ak xs.length ck) ?_ ?_ ?_); rfl; exact load_one Tryz.underlying37 rfl ((hB4r.cell 1).trans rfl)))
                    clear hHeld; refine t_next ?_ (fun hHeld => ?_)
                    · (first | exact True.intro | ((try dsimp only); (repeat' apply And.intro) <;> first | assumption | (refine Ext.cell_some (Ext.todrew (Ext.refl _)) ?_; assumption)))
                    (try simp only [Act.put, List.setIfInBounds_toArray, List.set_cons_zero, List.set_cons_succ])
                    refine t_one (i := 11) (by (simp only [List.getElem?_toArray, List.getElem?_cons_succ, List.getElem?_cons_zero]); rfl) ?_
                    ((refine q_call (by rfl) (IndexS_any _ c.names (S q) _ hN.strs) (by go_simp) ?_; rintro e W65 ⟨rfl, rfl⟩; refine ⟨_, rfl, ?_⟩))
                    clear hHeld; refine t_next ?_ (fun hHeld => ?_)
                    · (first | exact True.intro | ((try dsimp only); (repeat' apply And.intro) <;> first | assumption | (refine Ext.cell_some (Ext.todrew (Ext.refl _)) ?_; assumption)))
                    (try simp only [Act.put, List.setIfInBounds_toArray, List.set_cons_zero, List.set_cons_succ])
                    refine t_one (i := 15) (by (simp only [List.getElem?_toArray, List.getElem?_cons_succ, List.getElem?_cons_zero]); rfl) ?_
                    ((refine q_num (by rfl) (s := y) (by omega) (hv.ext hEr) (by go_simp) ?_ ?_; rotate_left; (intro Wp hn_ hEp; (show bodyPostD Tryz.prog Tryz.f40 (RetSI w (preadAns c text).1 (preadAns c text).2) (.panic noForm) _ _); exact read_fail rfl rfl rfl (hB4r.ext hEp) (hB5r.ext hEp) (Ext.trans hEr hEp) h40 h50 (Hno.out (Hln.out (by rw [hx, hn_]; rfl)))); intro z Wd hz hEd; replace hEr := Ext.trans hEr hEd; replace hB4r := hB4r.ext hEd; replace hB5r := hB5r.ext hEd; replace hB2r := hB2r.ext hEd; replace hBr := hBr.ext hEd; replace hBw := hBw.ext hEd; replace hO := OwnL.ext hO hEd; have d0 := hB2r.cell 0; have d1 := hB2r.cell 1; have d2 := hB2r.cell 2; have w0 := hBw.cell 0; have w1 := hBw.cell 1; have w2 := hBw.cell 2; simp [encS] at d0 d1 d2 w0 w1 w2))
                    clear hHeld; refine t_next ?_ (fun hHeld => ?_)
                    · (first | exact True.intro | ((try dsimp only); (repeat' apply And.intro) <;> first | assumption | (refine Ext.cell_some (Ext.todrew (Ext.refl _)) ?_; assumption)))
                    (try simp only [Act.put, List.setIfInBounds_toArray, List.set_cons_zero, List.set_cons_succ])
                    refine t_take (i := 16) (v := ?_) (by (simp only [List.getElem?_toArray, List.getElem?_cons_succ, List.getElem?_cons_zero]); rfl) (by rfl) ?_ (by exact hHeld) ?_
                    rotate_left
                    · (intro wq hSw; (try dsimp only at hSw); go_simp; (try with_reducible rfl))
                    (try simp only [Act.put, List.setIfInBounds_toArray, List.set_cons_zero, List.set_cons_succ])
                    refine t_one (i := 17) (by (simp only [List.getElem?_toArray, List.getElem?_cons_succ, List.getElem?_cons_zero]); rfl) ?_
                    (((with_reducible refine q_bsL (d := some 71) (p := x) (q := idxP (fun u => decide (S q = u)) c.names) (r := z) ?_ ?_); rfl; intro W71 g71 hE71 hB71 hg71; replace hEr := Ext.trans hEr hE71; replace hB4r := hB4r.ext hE71; replace hB5r := hB5r.ext hE71; replace hB2r := hB2r.ext hE71; replace hBr := hBr.ext hE71; replace hBw := hBw.ext hE71; replace hO := OwnL.ext hO hE71; have d0 := hB2r.cell 0; have d1 := hB2r.cell 1; have d2 := hB2r.cell 2; have w0 := hBw.cell 0; have w1 := hBw.cell 1; have w2 := hBw.cell 2; simp [encS] at d0 d1 d2 w0 w1 w2))
                    clear hHeld; refine t_next ?_ (fun hHeld => ?_)
                    · (first | exact True.intro | ((try dsimp only); (repeat' apply And.intro) <;> first | assumption | (refine Ext.cell_some (Ext.todrew (Ext.refl _)) ?_; assumption)))
                    (try simp only [Act.put, List.setIfInBounds_toArray, List.set_cons_zero, List.set_cons_succ])
                    refine t_one (i := 18) (by (simp only [List.getElem?_toArray, List.getElem?_cons_succ, List.getElem?_cons_zero]); rfl) ?_
                    (((with_reducible refine q_appL (d := some 72) (y := ⟨x, idxP (fun u => decide (S q = u)) c.names, z⟩) ?_ hO ?_ hB71 ?_ ?_ ?_); rfl; rfl; omega; exact hEr.size; intro v72 W72 hO72 hm72 hgr72; replace hEr := hm72 _ hEr; replace hB4r := hB4r.grown hgr72 (Blk.notown hB4r hO (.inl (by decide))); replace hB5r := hB5r.grown hgr72 (Blk.notown hB5r hO (.inl (by decide))); replace hB2r := hB2r.grown hgr72 (Blk.notown hB2r hO (.inl (by decide))); replace hBr := hBr.grown hgr72 (Blk.notown hBr hO (.inl (by decide))); replace hBw := hBw.grown hgr72 (Blk.notown hBw hO (.inl (by decide))); have d0 := hB2r.cell 0; have d1 := hB2r.cell 1; have d2 := hB2r.cell 2; have w0 := hBw.cell 0; have w1 := hBw.cell 1; have w2 := hBw.cell 2; simp [encS] at d0 d1 d2 w0 w1 w2; obtain ⟨A72, c72, e72, _, _, _⟩ := hO72.lines; have E72 := Lib.hid e72; clear e72))
                    clear hHeld; refine t_next ?_ (fun hHeld => ?_)
                    · (first | exact True.intro | ((try dsimp only); (repeat' apply And.intro) <;> first | assumption | (refine Ext.cell_some (Ext.todrew (Ext.refl _)) ?_; assumption)))
                    (try simp only [Act.put, List.setIfInBounds_toArray, List.set_cons_zero, List.set_cons_succ])
                    refine t_take (i := 19) (v := ?_) (by (simp only [List.getElem?_toArray, List.getElem?_cons_succ, List.getElem?_cons_zero]); rfl) (by rfl) ?_ (by exact hHeld) ?_
                    rotate_left
                    · (intro wq hSw; (try dsimp only at hSw); go_simp; (try with_reducible rfl))
                    (try simp only [Act.put, List.setIfInBounds_toArray, List.set_cons_zero, List.set_cons_succ])
                    refine t_one (i := 20) (by (simp only [List.getElem?_toArray, List.getElem?_cons_succ, List.getElem?_cons_zero]); rfl) ?_
                    (((with_reducible refine q_store1 (t := 37) (e := 39) (g := g4) (off := 1) (v := v72) ?_ ?_ hB4r size37 ?_ ?_ ?_ ?_); rfl; rfl; (rw [E72.out]; rfl); simp; (rw [E72.out]; rfl); intro Ws hBs hgrs; simp at hBs; replace hEr := below_grown hEr hgrs h40 hEr.size; replace hB5r := hB5r.grown hgrs (fun e => n45 (Option.some.inj e).symm); replace hB2r := hB2r.grown hgrs (fun e => n42 (Option.some.inj e).symm); replace hBr := hBr.grown hgrs (fun e => n4r (Option.some.inj e).symm); replace hBw := hBw.grown hgrs (fun e => n4w (Option.some.inj e).symm); have d0 := hB2r.cell 0; have d1 := hB2r.cell 1; have d2 := hB2r.cell 2; have w0 := hBw.cell 0; have w1 := hBw.cell 1; have w2 := hBw.cell 2; simp [encS] at d0 d1 d2 w0 w1 w2; replace hO72 := own_grown hO72 hgrs (own_ne hO72 hB4r (.inl (by decide)))))
                    clear hHeld; refine t_next ?_ (fun hHeld => ?_)
                    · (first | exact True.intro | ((try dsimp only); (repeat' apply And.intro) <;> first | assumption | (refine Ext.cell_some (Ext.todrew (Ext.refl _)) ?_; assumption)))
                    (try simp only [Act.put, List.setIfInBounds_toArray, List.set_cons_zero, List.set_cons_succ])
                    refine t_done ?_
                    (go_wp2; go_roundw; (case rel => exact ⟨k + 1, xs ++ [⟨x, idxP (fun u => decide (S q = u)) c.names, z⟩], _, by omega, by go_num, Hls.out ⟨x, idxP (fun u => decide (S q = u)) c.names, z⟩ (by rw [hx, hz]; rfl), hEr, hBs, hB5r, hB2r, hBr, (show OwnL w.heap.size Ws v72 (xs ++ [⟨x, idxP (fun u => decide (S q = u)) c.names, z⟩]) from hO72)⟩); (case measure => (simp [intOf]; omega)))
                  · ((refine q_call (by rfl) (IndexS_any _ c.names (S q) _ hN.strs) (by go_simp) ?_; rintro e W65 ⟨rfl, rfl⟩; refine ⟨_, rfl, ?_⟩))
                    clear hHeld; refine t_next ?_ (fun hHeld => ?_)
                    · (first | exact True.intro | ((try dsimp only); (repeat' apply And.intro) <;> first | assumption | (refine Ext.cell_some (Ext.todrew (Ext.refl _)) ?_; assumption)))
                    (try simp only [Act.put, List.setIfInBounds_toArray, List.set_cons_zero, List.set_cons_succ])
                    refine t_two (i := 1) (j := 15) (by (simp only [List.getElem?_toArray, List.getElem?_cons_succ, List.getElem?_cons_zero]); rfl) (by (simp only [List.getElem?_toArray, List.getElem?_cons_succ, List.getElem?_cons_zero]); rfl) ?_ ?_
                    · (((with_reducible refine q_load (d := some 55) (p := ⟨g4, 1, none⟩) (v := .slice Ak xs.length ck) ?_ ?_ ?_); rfl; exact load_one Tryz.underlying37 rfl ((hB4r.cell 1).trans rfl)))
                      clear hHeld; refine t_next ?_ (fun hHeld => ?_)
                      · (first | exact True.intro | ((try dsimp only); (repeat' apply And.intro) <;> first | assumption | (refine Ext.cell_some (Ext.todrew (Ext.refl _)) ?_; assumption)))
                      (try simp only [Act.put, List.setIfInBounds_toArray, List.set_cons_zero, List.set_cons_succ])
                      refine t_one (i := 15) (by (simp only [List.getElem?_toArray, List.getElem?_cons_succ, List.getElem?_cons_zero]); rfl) ?_
                      ((refine q_num (by rfl) (s := y) (by omega) (hv.ext hEr) (by go_simp) ?_ ?_; rotate_left; (intro Wp hn_ hEp; (show bodyPostD Tryz.prog Tryz.f40 (RetSI w (preadAns c text).1 (preadAns c text).2) (.panic noForm) _ _); exact read_fail rfl rfl rfl (hB4r.ext hEp) (hB5r.ext hEp) (Ext.trans hEr hEp) h40 h50 (Hno.out (Hln.out (by rw [hx, hn_]; rfl)))); intro z Wd hz hEd; replace hEr := Ext.trans hEr hEd; replace hB4r := hB4r.ext hEd; replace hB5r := hB5r.ext hEd; replace hB2r := hB2r.ext hEd; replace hBr := hBr.ext hEd; replace hBw := hBw.ext hEd; replace hO := OwnL.ext hO hEd; have d0 := hB2r.cell 0; have d1 := hB2r.cell 1; have d2 := hB2r.cell 2; have w0 := hBw.cell 0; have w1 := hBw.cell 1; have w2 := hBw.cell 2; simp [encS] at d0 d1 d2 w0 w1 w2))
                      clear hHeld; refine t_next ?_ (fun hHeld => ?_)
                      · (first | exact True.intro | ((try dsimp only); (repeat' apply And.intro) <;> first | assumption | (refine Ext.cell_some (Ext.todrew (Ext.refl _)) ?_; assumption)))
                      (try simp only [Act.put, List.setIfInBounds_toArray, List.set_cons_zero, List.set_cons_succ])
                      refine t_take (i := 16) (v := ?_) (by (simp only [List.getElem?_toArray, List.getElem?_cons_succ, List.getElem?_cons_zero]); rfl) (by rfl) ?_ (by exact hHeld) ?_
                      rotate_left
                      · (intro wq hSw; (try dsimp only at hSw); go_simp; (try with_reducible rfl))
                      (try simp only [Act.put, List.setIfInBounds_toArray, List.set_cons_zero, List.set_cons_succ])
                      refine t_one (i := 17) (by (simp only [List.getElem?_toArray, List.getElem?_cons_succ, List.getElem?_cons_zero]); rfl) ?_
                      (((with_reducible refine q_bsL (d := some 71) (p := x) (q := idxP (fun u => decide (S q = u)) c.names) (r := z) ?_ ?_); rfl; intro W71 g71 hE71 hB71 hg71; replace hEr := Ext.trans hEr hE71; replace hB4r := hB4r.ext hE71; replace hB5r := hB5r.ext hE71; replace hB2r := hB2r.ext hE71; replace hBr := hBr.ext hE71; replace hBw := hBw.ext hE71; replace hO := OwnL.ext hO hE71; have d0 := hB2r.cell 0; have d1 := hB2r.cell 1; have d2 := hB2r.cell 2; have w0 := hBw.cell 0; have w1 := hBw.cell 1; have w2 := hBw.cell 2; simp [encS] at d0 d1 d2 w0 w1 w2))
                      clear hHeld; refine t_next ?_ (fun hHeld => ?_)
                      · (first | exact True.intro | ((try dsimp only); (repeat' apply And.intro) <;> first | assumption | (refine Ext.cell_some (Ext.todrew (Ext.refl _)) ?_; assumption)))
                      (try simp only [Act.put, List.setIfInBounds_toArray, List.set_cons_zero, List.set_cons_succ])
                      refine t_one (i := 18) (by (simp only [List.getElem?_toArray, List.getElem?_cons_succ, List.getElem?_cons_zero]); rfl) ?_
                      (((with_reducible refine q_appL (d := some 72) (y := ⟨x, idxP (fun u => decide (S q = u)) c.names, z⟩) ?_ hO ?_ hB71 ?_ ?_ ?_); rfl; rfl; omega; exact hEr.size; intro v72 W72 hO72 hm72 hgr72; replace hEr := hm72 _ hEr; replace hB4r := hB4r.grown hgr72 (Blk.notown hB4r hO (.inl (by decide))); replace hB5r := hB5r.grown hgr72 (Blk.notown hB5r hO (.inl (by decide))); replace hB2r := hB2r.grown hgr72 (Blk.notown hB2r hO (.inl (by decide))); replace hBr := hBr.grown hgr72 (Blk.notown hBr hO (.inl (by decide))); replace hBw := hBw.grown hgr72 (Blk.notown hBw hO (.inl (by decide))); have d0 := hB2r.cell 0; have d1 := hB2r.cell 1; have d2 := hB2r.cell 2; have w0 := hBw.cell 0; have w1 := hBw.cell 1; have w2 := hBw.cell 2; simp [encS] at d0 d1 d2 w0 w1 w2; obtain ⟨A72, c72, e72, _, _, _⟩ := hO72.lines; have E72 := Lib.hid e72; clear e72))
                      clear hHeld; refine t_next ?_ (fun hHeld => ?_)
                      · (first | exact True.intro | ((try dsimp only); (repeat' apply And.intro) <;> first | assumption | (refine Ext.cell_some (Ext.todrew (Ext.refl _)) ?_; assumption)))
                      (try simp only [Act.put, List.setIfInBounds_toArray, List.set_cons_zero, List.set_cons_succ])
                      refine t_take (i := 19) (v := ?_) (by (simp only [List.getElem?_toArray, List.getElem?_cons_succ, List.getElem?_cons_zero]); rfl) (by rfl) ?_ (by exact hHeld) ?_
                      rotate_left
                      · (intro wq hSw; (try dsimp only at hSw); go_simp; (try with_reducible rfl))
                      (try simp only [Act.put, List.setIfInBounds_toArray, List.set_cons_zero, List.set_cons_succ])
                      refine t_one (i := 20) (by (simp only [List.getElem?_toArray, List.getElem?_cons_succ, List.getElem?_cons_zero]); rfl) ?_
                      (((with_reducible refine q_store1 (t := 37) (e := 39) (g := g4) (off := 1) (v := v72) ?_ ?_ hB4r size37 ?_ ?_ ?_ ?_); rfl; rfl; (rw [E72.out]; rfl); simp; (rw [E72.out]; rfl); intro Ws hBs hgrs; simp at hBs; replace hEr := below_grown hEr hgrs h40 hEr.size; replace hB5r := hB5r.grown hgrs (fun e => n45 (Option.some.inj e).symm); replace hB2r := hB2r.grown hgrs (fun e => n42 (Option.some.inj e).symm); replace hBr := hBr.grown hgrs (fun e => n4r (Option.some.inj e).symm); replace hBw := hBw.grown hgrs (fun e => n4w (Option.some.inj e).symm); have d0 := hB2r.cell 0; have d1 := hB2r.cell 1; have d2 := hB2r.cell 2; have w0 := hBw.cell 0; have w1 := hBw.cell 1; have w2 := hBw.cell 2; simp [encS] at d0 d1 d2 w0 w1 w2; replace hO72 := own_grown hO72 hgrs (own_ne hO72 hB4r (.inl (by decide)))))
                      clear hHeld; refine t_next ?_ (fun hHeld => ?_)
                      · (first | exact True.intro | ((try dsimp only); (repeat' apply And.intro) <;> first | assumption | (refine Ext.cell_some (Ext.todrew (Ext.refl _)) ?_; assumption)))
                      (try simp only [Act.put, List.setIfInBounds_toArray, List.set_cons_zero, List.set_cons_succ])
                      refine t_done ?_
                      (go_wp2; go_roundw; (case rel => exact ⟨k + 1, xs ++ [⟨x, idxP (fun u => decide (S q = u)) c.names, z⟩], _, by omega, by go_num, Hls.out ⟨x, idxP (fun u => decide (S q = u)) c.names, z⟩ (by rw [hx, hz]; rfl), hEr, hBs, hB5r, hB2r, hBr, (show OwnL w.heap.size Ws v72 (xs ++ [⟨x, idxP (fun u => decide (S q = u)) c.names, z⟩]) from hO72)⟩); (case measure => (simp [intOf]; omega)))
                    · ((refine q_num (by rfl) (s := y) (by omega) (hv.ext hEr) (by go_simp) ?_ ?_; rotate_left; (intro Wp hn_ hEp; (show bodyPostD Tryz.prog Tryz.f40 (RetSI w (preadAns c text).1 (preadAns c text).2) (.panic noForm) _ _); exact read_fail rfl rfl rfl (hB4r.ext hEp) (hB5r.ext hEp) (Ext.trans hEr hEp) h40 h50 (Hno.out (Hln.out (by rw [hx, hn_]; rfl)))); intro z Wd hz hEd; replace hEr := Ext.trans hEr hEd; replace hB4r := hB4r.ext hEd; replace hB5r := hB5r.ext hEd; replace hB2r := hB2r.ext hEd; replace hBr := hBr.ext hEd; replace hBw := hBw.ext hEd; replace hO := OwnL.ext hO hEd; have d0 := hB2r.cell 0; have d1 := hB2r.cell 1; have d2 := hB2r.cell 2; have w0 := hBw.cell 0; have w1 := hBw.cell 1; have w2 := hBw.cell 2; simp [encS] at d0 d1 d2 w0 w1 w2))
                      clear hHeld; refine t_next ?_ (fun hHeld => ?_)
                      · (first | exact True.intro | ((try dsimp only); (repeat' apply And.intro) <;> first | assumption | (refine Ext.cell_some (Ext.todrew (Ext.refl _)) ?_; assumption)))
                      (try simp only [Act.put, List.setIfInBounds_toArray, List.set_cons_zero, List.set_cons_succ])
                      refine t_take (i := 16) (v := ?_) (by (simp only [List.getElem?_toArray, List.getElem?_cons_succ, List.getElem?_cons_zero]); rfl) (by rfl) ?_ (by exact hHeld) ?_
                      rotate_left
                      · (intro wq hSw; (try dsimp only at hSw); go_simp; (try with_reducible rfl))
                      (try simp only [Act.put, List.setIfInBounds_toArray, List.set_cons_zero, List.set_cons_succ])
                      refine t_two (i := 1) (j := 17) (by (simp only [List.getElem?_toArray, List.getElem?_cons_succ, List.getElem?_cons_zero]); rfl) (by (simp only [List.getElem?_toArray, List.getElem?_cons_succ, List.getElem?_cons_zero]); rfl) ?_ ?_
                      · (((with_reducible refine q_load (d := some 55) (p := ⟨g4, 1, none⟩) (v := .slice Ak xs.length ck) ?_ ?_ ?_); rfl; exact load_one Tryz.underlying37 rfl ((hB4r.cell 1).trans rfl)))
                        clear hHeld; refine t_next ?_ (fun hHeld => ?_)
                        · (first | exact True.intro | ((try dsimp only); (repeat' apply And.intro) <;> first | assumption | (refine Ext.cell_some (Ext.todrew (Ext.refl _)) ?_; assumption)))
                        (try simp only [Act.put, List.setIfInBounds_toArray, List.set_cons_zero, List.set_cons_succ])
                        refine t_one (i := 17) (by (simp only [List.getElem?_toArray, List.getElem?_cons_succ, List.getElem?_cons_zero]); rfl) ?_
                        (((with_reducible refine q_bsL (d := some 71) (p := x) (q := idxP (fun u => decide (S q = u)) c.names) (r := z) ?_ ?_); rfl; intro W71 g71 hE71 hB71 hg71; replace hEr := Ext.trans hEr hE71; replace hB4r := hB4r.ext hE71; replace hB5r := hB5r.ext hE71; replace hB2r := hB2r.ext hE71; replace hBr := hBr.ext hE71; replace hBw := hBw.ext hE71; replace hO := OwnL.ext hO hE71; have d0 := hB2r.cell 0; have d1 := hB2r.cell 1; have d2 := hB2r.cell 2; have w0 := hBw.cell 0; have w1 := hBw.cell 1; have w2 := hBw.cell 2; simp [encS] at d0 d1 d2 w0 w1 w2))
                        clear hHeld; refine t_next ?_ (fun hHeld => ?_)
                        · (first | exact True.intro | ((try dsimp only); (repeat' apply And.intro) <;> first | assumption | (refine Ext.cell_some (Ext.todrew (Ext.refl _)) ?_; assumption)))
                        (try simp only [Act.put, List.setIfInBounds_toArray, List.set_cons_zero, List.set_cons_succ])
                        refine t_one (i := 18) (by (simp only [List.getElem?_toArray, List.getElem?_cons_succ, List.getElem?_cons_zero]); rfl) ?_
                        (((with_reducible refine q_appL (d := some 72) (y := ⟨x, idxP (fun u => decide (S q = u)) c.names, z⟩) ?_ hO ?_ hB71 ?_ ?_ ?_); rfl; rfl; omega; exact hEr.size; intro v72 W72 hO72 hm72 hgr72; replace hEr := hm72 _ hEr; replace hB4r := hB4r.grown hgr72 (Blk.notown hB4r hO (.inl (by decide))); replace hB5r := hB5r.grown hgr72 (Blk.notown hB5r hO (.inl (by decide))); replace hB2r := hB2r.grown hgr72 (Blk.notown hB2r hO (.inl (by decide))); replace hBr := hBr.grown hgr72 (Blk.notown hBr hO (.inl (by decide))); replace hBw := hBw.grown hgr72 (Blk.notown hBw hO (.inl (by decide))); have d0 := hB2r.cell 0; have d1 := hB2r.cell 1; have d2 := hB2r.cell 2; have w0 := hBw.cell 0; have w1 := hBw.cell 1; have w2 := hBw.cell 2; simp [encS] at d0 d1 d2 w0 w1 w2; obtain ⟨A72, c72, e72, _, _, _⟩ := hO72.lines; have E72 := Lib.hid e72; clear e72))
                        clear hHeld; refine t_next ?_ (fun hHeld => ?_)
                        · (first | exact True.intro | ((try dsimp only); (repeat' apply And.intro) <;> first | assumption | (refine Ext.cell_some (Ext.todrew (Ext.refl _)) ?_; assumption)))
                        (try simp only [Act.put, List.setIfInBounds_toArray, List.set_cons_zero, List.set_cons_succ])
                        refine t_take (i := 19) (v := ?_) (by (simp only [List.getElem?_toArray, List.getElem?_cons_succ, List.getElem?_cons_zero]); rfl) (by rfl) ?_ (by exact hHeld) ?_
                        rotate_left
                        · (intro wq hSw; (try dsimp only at hSw); go_simp; (try with_reducible rfl))
                        (try simp only [Act.put, List.setIfInBounds_toArray, List.set_cons_zero, List.set_cons_succ])
                        refine t_one (i := 20) (by (simp only [List.getElem?_toArray, List.getElem?_cons_succ, List.getElem?_cons_zero]); rfl) ?_
                        (((with_reducible refine q_store1 (t := 37) (e := 39) (g := g4) (off := 1) (v := v72) ?_ ?_ hB4r size37 ?_ ?_ ?_ ?_); rfl; rfl; (rw [E72.out]; rfl); simp; (rw [E72.out]; rfl); intro Ws hBs hgrs; simp at hBs; replace hEr := below_grown hEr hgrs h40 hEr.size; replace hB5r := hB5r.grown hgrs (fun e => n45 (Option.some.inj e).symm); replace hB2r := hB2r.grown hgrs (fun e => n42 (Option.some.inj e).symm); replace hBr := hBr.grown hgrs (fun e => n4r (Option.some.inj e).symm); replace hBw := hBw.grown hgrs (fun e => n4w (Option.some.inj e).symm); have d0 := hB2r.cell 0; have d1 := hB2r.cell 1; have d2 := hB2r.cell 2; have w0 := hBw.cell 0; have w1 := hBw.cell 1; have w2 := hBw.cell 2; simp [encS] at d0 d1 d2 w0 w1 w2; replace hO72 := own_grown hO72 hgrs (own_ne hO72 hB4r (.inl (by decide)))))
                        clear hHeld; refine t_next ?_ (fun hHeld => ?_)
                        · (first | exact True.intro | ((try dsimp only); (repeat' apply And.intro) <;> first | assumption | (refine Ext.cell_some (Ext.todrew (Ext.refl _)) ?_; assumption)))
                        (try simp only [Act.put, List.setIfInBounds_toArray, List.set_cons_zero, List.set_cons_succ])
                        refine t_done ?_
                        (go_wp2; go_roundw; (case rel => exact ⟨k + 1, xs ++ [⟨x, idxP (fun u => decide (S q = u)) c.names, z⟩], _, by omega, by go_num, Hls.out ⟨x, idxP (fun u => decide (S q = u)) c.names, z⟩ (by rw [hx, hz]; rfl), hEr, hBs, hB5r, hB2r, hBr, (show OwnL w.heap.size Ws v72 (xs ++ [⟨x, idxP (fun u => decide (S q = u)) c.names, z⟩]) from hO72)⟩); (case measure => (simp [intOf]; omega)))
                      · (((with_reducible refine q_bsL (d := some 71) (p := x) (q := idxP (fun u => decide (S q = u)) c.names) (r := z) ?_ ?_); rfl; intro W71 g71 hE71 hB71 hg71; replace hEr := Ext.trans hEr hE71; replace hB4r := hB4r.ext hE71; replace hB5r := hB5r.ext hE71; replace hB2r := hB2r.ext hE71; replace hBr := hBr.ext hE71; replace hBw := hBw.ext hE71; replace hO := OwnL.ext hO hE71; have d0 := hB2r.cell 0; have d1 := hB2r.cell 1; have d2 := hB2r.cell 2; have w0 := hBw.cell 0; have w1 := hBw.cell 1; have w2 := hBw.cell 2; simp [encS] at d0 d1 d2 w0 w1 w2))
                        clear hHeld; refine t_next ?_ (fun hHeld => ?_)
                        · (first | exact True.intro | ((try dsimp only); (repeat' apply And.intro) <;> first | assumption | (refine Ext.cell_some (Ext.todrew (Ext.refl _)) ?_; assumption)))
                        (try simp only [Act.put, List.setIfInBounds_toArray, List.set_cons_zero, List.set_cons_succ])
                        refine t_one (i := 1) (by (simp only [List.getElem?_toArray, List.getElem?_cons_succ, List.getElem?_cons_zero]); rfl) ?_
                        (((with_reducible refine q_load (d := some 55) (p := ⟨g4, 1, none⟩) (v := .slice Ak xs.length ck) ?_ ?_ ?_); rfl; exact load_one Tryz.underlying37 rfl ((hB4r.cell 1).trans rfl)))
                        clear hHeld; refine t_next ?_ (fun hHeld => ?_)
                        · (first | exact True.intro | ((try dsimp only); (repeat' apply And.intro) <;> first | assumption | (refine Ext.cell_some (Ext.todrew (Ext.refl _)) ?_; assumption)))
                        (try simp only [Act.put, List.setIfInBounds_toArray, List.set_cons_zero, List.set_cons_succ])
                        refine t_one (i := 18) (by (simp only [List.getElem?_toArray, List.getElem?_cons_succ, List.getElem?_cons_zero]); rfl) ?_
                        (((with_reducible refine q_appL (d := some 72) (y := ⟨x, idxP (fun u => decide (S q = u)) c.names, z⟩) ?_ hO ?_ hB71 ?_ ?_ ?_); rfl; rfl; omega; exact hEr.size; intro v72 W72 hO72 hm72 hgr72; replace hEr := hm72 _ hEr; replace hB4r := hB4r.grown hgr72 (Blk.notown hB4r hO (.inl (by decide))); replace hB5r := hB5r.grown hgr72 (Blk.notown hB5r hO (.inl (by decide))); replace hB2r := hB2r.grown hgr72 (Blk.notown hB2r hO (.inl (by decide))); replace hBr := hBr.grown hgr72 (Blk.notown hBr hO (.inl (by decide))); replace hBw := hBw.grown hgr72 (Blk.notown hBw hO (.inl (by decide))); have d0 := hB2r.cell 0; have d1 := hB2r.cell 1; have d2 := hB2r.cell 2; have w0 := hBw.cell 0; have w1 := hBw.cell 1; have w2 := hBw.cell 2; simp [encS] at d0 d1 d2 w0 w1 w2; obtain ⟨A72, c72, e72, _, _, _⟩ := hO72.lines; have E72 := Lib.hid e72; clear e72))
                        clear hHeld; refine t_next ?_ (fun hHeld => ?_)
                        · (first | exact True.intro | ((try dsimp only); (repeat' apply And.intro) <;> first | assumption | (refine Ext.cell_some (Ext.todrew (Ext.refl _)) ?_; assumption)))
                        (try simp only [Act.put, List.setIfInBounds_toArray, List.set_cons_zero, List.set_cons_succ])
                        refine t_take (i := 19) (v := ?_) (by (simp only [List.getElem?_toArray, List.getElem?_cons_succ, List.getElem?_cons_zero]); rfl) (by rfl) ?_ (by exact hHeld) ?_
                        rotate_left
                        · (intro wq hSw; (try dsimp only at hSw); go_simp; (try with_reducible rfl))
                        (try simp only [Act.put, List.setIfInBounds_toArray, List.set_cons_zero, List.set_cons_succ])
                        refine t_one (i := 20) (by (simp only [List.getElem?_toArray, List.getElem?_cons_succ, List.getElem?_cons_zero]); rfl) ?_
                        (((with_reducible refine q_store1 (t := 37) (e := 39) (g := g4) (off := 1) (v := v72) ?_ ?_ hB4r size37 ?_ ?_ ?_ ?_); rfl; rfl; (rw [E72.out]; rfl); simp; (rw [E72.out]; rfl); intro Ws hBs hgrs; simp at hBs; replace hEr := below_grown hEr hgrs h40 hEr.size; replace hB5r := hB5r.grown hgrs (fun e => n45 (Option.some.inj e).symm); replace hB2r := hB2r.grown hgrs (fun e => n42 (Option.some.inj e).symm); replace hBr := hBr.grown hgrs (fun e => n4r (Option.some.inj e).symm); replace hBw := hBw.grown hgrs (fun e => n4w (Option.some.inj e).symm); have d0 := hB2r.cell 0; have d1 := hB2r.cell 1; have d2 := hB2r.cell 2; have w0 := hBw.cell 0; have w1 := hBw.cell 1; have w2 := hBw.cell 2; simp [encS] at d0 d1 d2 w0 w1 w2; replace hO72 := own_grown hO72 hgrs (own_ne hO72 hB4r (.inl (by decide)))))
                        clear hHeld; refine t_next ?_ (fun hHeld => ?_)
                        · (first | exact True.intro | ((try dsimp only); (repeat' apply And.intro) <;> first | assumption | (refine Ext.cell_some (Ext.todrew (Ext.refl _)) ?_; assumption)))
                        (try simp only [Act.put, List.setIfInBounds_toArray, List.set_cons_zero, List.set_cons_succ])
                        refine t_done ?_
                        (go_wp2; go_roundw; (case rel => exact ⟨k + 1, xs ++ [⟨x, idxP (fun u => decide (S q = u)) c.names, z⟩], _, by omega, by go_num, Hls.out ⟨x, idxP (fun u => decide (S q = u)) c.names, z⟩ (by rw [hx, hz]; rfl), hEr, hBs, hB5r, hB2r, hBr, (show OwnL w.heap.size Ws v72 (xs ++ [⟨x, idxP (fun u => decide (S q = u)) c.names, z⟩]) from hO72)⟩); (case measure => (simp [intOf]; omega)))
            · have hno := Hln.out (lineL_no3 h3)
              have Hbad := Lib.hid (Hno.out hno)
              have hdec : (((cutAt 32 row).length : Int) == 3) = false := by simp; omega
              go_wp2_with (first | (go_at_call 90; (try rw [hdec]); refine (pmust_f _).mono ?_; rintro e W90 ⟨rfl, rfl⟩))
              show bodyPostD Tryz.prog Tryz.f40 (RetSI w (preadAns c text).1 (preadAns c text).2) (.panic noForm) _ _
              exact read_fail rfl rfl rfl hB4r hB5r hEr h40 h50 Hbad.out
          · obtain rfl : k = rs.length := by omega
            have Hall := Lib.hid (show linesL c rs = some xs by have := Hxs.out; rwa [List.take_length] at this)
            clear hrm hps hsl hxl Hxs
            have Hans := Lib.hid (Hyes.out xs Hall.out)
            have n42 := blk_ne hB4r hB2r (by decide)
            have n52 := blk_ne hB5r hB2r (by decide)
            have d0 := hB2r.cell 0; have d1 := hB2r.cell 1; have d2 := hB2r.cell 2
            simp at d0 d1 d2
            have sK : SheetV wr (.agg #[.int .i64 n, .slice Ak xs.length ck]) ⟨n, xs⟩ := ⟨_, rfl, hO.lines⟩
            obtain ⟨ev, hev⟩ : ∃ e, Sheet.err c ⟨n, xs⟩ = e := ⟨_, rfl⟩
            have Hev := Lib.hid hev
            clear hev
            go_wp2_with (first | ((with_reducible refine q_load (d := some 76) (hl := ld_code3 d0 d1 d2) ?_ ?_); rfl) | ((with_reducible refine q_load (d := some 77) (hl := ld_sheet hB4r) ?_ ?_); rfl) | (go_at_call 94; refine (psee_any fv mv _ c ⟨n, xs⟩ wr (hFw.ext hEr) (hMw.ext hEr) sK Ho.out).mono ?_; rintro e W94 ⟨v94, rfl, hE94, _, _⟩; rw [Hev.out]; replace hEr := Ext.trans hEr hE94; replace hB4r := hB4r.ext hE94; replace hB5r := hB5r.ext hE94; replace hO := OwnL.ext hO hE94) | ((with_reducible refine q_store1 (t := 27) (g := g5) (off := 0) (v := .int .i64 ev) ?_ ?_ hB5r size27 ?_ ?_ ?_ ?_); rfl; rfl; rfl; simp; rfl; intro Ws hBs hgrs; simp at hBs; replace hEr := below_grown hEr hgrs h50 hEr.size; replace hB4r := hB4r.grown hgrs (fun e => n45 (Option.some.inj e)); have c5s := cell_blk hBs; replace hO := own_grown hO hgrs (own_ne hO hB5r (.inl (by decide)))))
            by_cases he : ev = 0
            · subst he
              have Hfin := Lib.hid (show preadAns c text = (⟨n, xs⟩, 0) by rw [Hans.out, if_pos Hev.out])
              refine (pmust_t _).mono ?_
              rintro e W90 ⟨rfl, rfl⟩
              go_wp2_with (first | ((with_reducible refine q_load (d := some 84) (hl := ld_sheet hB4r) ?_ ?_); rfl) | ((with_reducible refine q_store (t := 39) (e := 39) (g := g4) (off := 0) (n := 2) (v := .agg #[.int .i64 n, .slice Ak xs.length ck]) ?_ ?_ hB4r size39 ?_ ?_ ?_ ?_); rfl; rfl; rfl; (simp [Value.cells]); (simp [Value.cells, Value.oneCell']); intro W60 hB60 hgr60; simp [putAt, Value.cells] at hB60; replace hEr := below_grown hEr hgr60 h40 hEr.size; replace hO := own_grown hO hgr60 (own_ne hO hB4r (.inl (by decide))); have hB5z := hBs.grown hgr60 (fun e => n45 (Option.some.inj e).symm)) | ((with_reducible refine q_store1 (t := 27) (g := g5) (off := 0) (v := .int .i64 0) ?_ ?_ hB5z size27 ?_ ?_ ?_ ?_); rfl; rfl; rfl; simp; rfl; intro Wf hBf hgrf; simp at hBf; replace hEr := below_grown hEr hgrf h50 hEr.size; replace hB60 := hB60.grown hgrf (fun e => n45 (Option.some.inj e)); replace hO := own_grown hO hgrf (own_ne hO hB5z (.inl (by decide)))))
              exact read_done (s := ⟨n, xs⟩) rfl rfl rfl hB60 hBf (OwnL.lines hO) hEr Hfin.out
            · have hdec : (ev == 0) = false := by simp [he]
              rw [hdec]
              have Hbad := Lib.hid (show preadAns c text = (⟨0, []⟩, 6) by rw [Hans.out, if_neg (by rw [Hev.out]; exact he)])
              refine (pmust_f _).mono ?_
              rintro e W90 ⟨rfl, rfl⟩
              show bodyPostD Tryz.prog Tryz.f40 (RetSI w (preadAns c text).1 (preadAns c text).2) (.panic noForm) _ _
              exact read_fail rfl rfl rfl hB4r hBs hEr h40 h50 Hbad.out
    · have q6 : (600 : Int) < text.size := by omega
      have Hre := Lib.hid (show preadAns c text = (⟨0, []⟩, 3) by unfold preadAns readErr; simp [ha, h6])
      clear ha ho hck h6
      go_enter_defers Tryz.func40, Tryz.ntmps40
      go_wp2_with (first | (((with_reducible refine q_alloc (d := some 4) ti39 ?_); intro W4 g4 hE4 hB4 hg4; have h40 := Nat.le_trans hE.size hg4; simp [Value.cells] at hB4; replace hE := hE.trans hE4; replace hF := hF.ext hE4; replace hM := hM.ext hE4; replace hB2 := hB2.ext hE4; replace hb2_0 := Ext.cell_some hE4 hb2_0; replace hb2_1 := Ext.cell_some hE4 hb2_1; replace hb2_2 := Ext.cell_some hE4 hb2_2)) | (((with_reducible refine q_alloc (d := some 5) ti27 ?_); intro W5 g5 hE5 hB5 hg5; have h50 := Nat.le_trans hE.size hg5; simp [Value.cells] at hB5; replace hE := hE.trans hE5; replace hF := hF.ext hE5; replace hM := hM.ext hE5; replace hB2 := hB2.ext hE5; replace hB4 := hB4.ext hE5; replace hb2_0 := Ext.cell_some hE5 hb2_0; replace hb2_1 := Ext.cell_some hE5 hb2_1; replace hb2_2 := Ext.cell_some hE5 hb2_2)) | ((go_at_call 17; refine (PCheck_any _ c _ (CodeV.of hF hM HW.out)).mono ?_; rintro e W17 ⟨rfl, hE17⟩; replace hE := hE.trans hE17; replace hB2 := hB2.ext hE17; replace hB4 := hB4.ext hE17; replace hB5 := hB5.ext hE17; rw [Hck.out]; have h01 : 0 < (#[Value.int .i64 0] : Array Value).size := (by simp))) | (((with_reducible refine q_store1 (t := 27) (g := g5) (off := 0) (v := .int .i64 0) ?_ ?_ hB5 size27 ?_ h01 ?_ ?_); rfl; rfl; rfl; rfl; intro Ws hBs hgrs; simp at hBs; have n45 : g4 ≠ g5 := blk_ne hB4 hB5 (by decide); have n25 : g2 ≠ g5 := blk_ne hB2 hB5 (by decide); have hB4s := hB4.grown hgrs (fun e => n45 (Option.some.inj e)); have hB2s := hB2.grown hgrs (fun e => n25 (Option.some.inj e)); have hEs := below_grown hE hgrs h50 hE.size; have c5 := cell_blk hBs; clear hgrs)) | (((with_reducible refine q_load (d := some 25) (hl := ld_sheet hB4s) ?_ ?_); rfl)) | (((with_reducible refine q_store (t := 39) (e := 39) (g := g4) (off := 0) (n := 2) (v := .agg #[.int .i64 0, .slice none 0 0]) ?_ ?_ hB4s size39 ?_ ?_ ?_ ?_); rfl; rfl; rfl; (simp [Value.cells]); (simp [Value.cells, Value.oneCell']); intro W60 hB60 hgr60; simp [putAt, Value.cells] at hB60; replace hEs := below_grown hEs hgr60 h40 hEs.size; have hB5z := hBs.grown hgr60 (fun e => n45 (Option.some.inj e).symm))) | (((with_reducible refine q_store1 (t := 27) (g := g5) (off := 0) (v := .int .i64 3) ?_ ?_ hB5z size27 ?_ ?_ ?_ ?_); rfl; rfl; rfl; simp; rfl; intro Wf hBf hgrf; simp at hBf; replace hEs := below_grown hEs hgrf h50 hEs.size; replace hB60 := hB60.grown hgrf (fun e => n45 (Option.some.inj e)))) | ((with_reducible refine q_box (d := some 2) ?_); intro W2 g2 hE2 hB2 hg2; simp [Act.eval, Act.put, Value.cells] at hB2; (try replace hE := hE.trans hE2); (try replace hF := hF.ext hE2); (try replace hM := hM.ext hE2); (try replace hB2 := hB2.ext hE2); (try replace hb2_0 := Ext.cell_some hE2 hb2_0); (try replace hb2_1 := Ext.cell_some hE2 hb2_1); (try replace hb2_2 := Ext.cell_some hE2 hb2_2); have hb2_0 := hB2.cell 0; have hb2_1 := hB2.cell 1; have hb2_2 := hB2.cell 2; simp at hb2_0 hb2_1 hb2_2; clear hE2))
      refine postD_none ⟨rfl, _, read_results rfl rfl hB60 hBf, ?_⟩
      rw [Hre.out]
      exact ⟨_, rfl, ⟨_, rfl, Sl.none_ _ _⟩, hEs⟩
  · obtain ⟨c1, c2, er, hck⟩ : ∃ x y z, c.check = (x, y, z) := ⟨_, _, _, rfl⟩
    have her : er ≠ 0 := by rw [hck] at ha; exact ha
    have hneq : (er != 0) = true := by simp [her]
    have Hck := Lib.hid hck
    have Hre := Lib.hid (show preadAns c text = (⟨0, []⟩, er) by unfold preadAns readErr; simp [hck, her])
    clear ha hck her
    go_enter_defers Tryz.func40, Tryz.ntmps40
    go_wp2_with (first | (((with_reducible refine q_alloc (d := some 4) ti39 ?_); intro W4 g4 hE4 hB4 hg4; have h40 := Nat.le_trans hE.size hg4; simp [Value.cells] at hB4; replace hE := hE.trans hE4; replace hF := hF.ext hE4; replace hM := hM.ext hE4; replace hB2 := hB2.ext hE4; replace hb2_0 := Ext.cell_some hE4 hb2_0; replace hb2_1 := Ext.cell_some hE4 hb2_1; replace hb2_2 := Ext.cell_some hE4 hb2_2)) | (((with_reducible refine q_alloc (d := some 5) ti27 ?_); intro W5 g5 hE5 hB5 hg5; have h50 := Nat.le_trans hE.size hg5; simp [Value.cells] at hB5; replace hE := hE.trans hE5; replace hF := hF.ext hE5; replace hM := hM.ext hE5; replace hB2 := hB2.ext hE5; replace hB4 := hB4.ext hE5; replace hb2_0 := Ext.cell_some hE5 hb2_0; replace hb2_1 := Ext.cell_some hE5 hb2_1; replace hb2_2 := Ext.cell_some hE5 hb2_2)) | ((go_at_call 17; refine (PCheck_any _ c _ (CodeV.of hF hM HW.out)).mono ?_; rintro e W17 ⟨rfl, hE17⟩; replace hE := hE.trans hE17; replace hB2 := hB2.ext hE17; replace hB4 := hB4.ext hE17; replace hB5 := hB5.ext hE17; rw [Hck.out]; have h01 : 0 < (#[Value.int .i64 0] : Array Value).size := (by simp))) | (((with_reducible refine q_store1 (t := 27) (g := g5) (off := 0) (v := .int .i64 er) ?_ ?_ hB5 size27 ?_ h01 ?_ ?_); rfl; rfl; rfl; rfl; intro Ws hBs hgrs; simp at hBs; have n45 : g4 ≠ g5 := blk_ne hB4 hB5 (by decide); have n25 : g2 ≠ g5 := blk_ne hB2 hB5 (by decide); have hB4s := hB4.grown hgrs (fun e => n45 (Option.some.inj e)); have hB2s := hB2.grown hgrs (fun e => n25 (Option.some.inj e)); have hEs := below_grown hE hgrs h50 hE.size; have c5 := cell_blk hBs; clear hgrs)) | ((with_reducible refine q_box (d := some 2) ?_); intro W2 g2 hE2 hB2 hg2; simp [Act.eval, Act.put, Value.cells] at hB2; (try replace hE := hE.trans hE2); (try replace hF := hF.ext hE2); (try replace hM := hM.ext hE2); (try replace hB2 := hB2.ext hE2); (try replace hb2_0 := Ext.cell_some hE2 hb2_0); (try replace hb2_1 := Ext.cell_some hE2 hb2_1); (try replace hb2_2 := Ext.cell_some hE2 hb2_2); have hb2_0 := hB2.cell 0; have hb2_1 := hB2.cell 1; have hb2_2 := hB2.cell 2; simp at hb2_0 hb2_1 hb2_2; clear hE2))
    have hdr := Ext.todrew (Ext.refl Ws)
    replace hEs := Ext.trans hEs hdr; replace hB4s := hB4s.d; replace hBs := hBs.d
    refine wp_region_treeD (.take 0 (.take 1 (.one 2 (.one 3 .nil)))) (fun w' => Blk w' g4 39 #[.int .i64 0, .slice none 0 0] ∧ Blk w' g5 27 #[.int .i64 er]) (fun d => d != 4 && d != 5) (by kernel_rfl) (by kernel_rfl) (by kernel_rfl) (by kernel_rfl) (by kernel_rfl) (fun c a d v w hd h => pan40 hd h) ?_ (fun hHeld => ?_)
    · (first | exact True.intro | ((try dsimp only); (repeat' apply And.intro) <;> first | assumption | (refine Ext.cell_some (Ext.todrew (Ext.refl _)) ?_; assumption)))
    refine t_take (i := 0) (v := .agg #[.int .i64 0, .slice none 0 0]) (by (simp only [List.getElem?_toArray, List.getElem?_cons_succ, List.getElem?_cons_zero]); rfl) (by rfl) ?_ (by exact hHeld) ?_
    · (intro wq hSw; have e0 := hSw.1.cell 0; have e1 := hSw.1.cell 1; simp at e0 e1; go_simp)
    (try simp only [Act.put, List.setIfInBounds_toArray, List.set_cons_zero, List.set_cons_succ])
    refine t_take (i := 1) (v := .int .i64 er) (by (simp only [List.getElem?_toArray, List.getElem?_cons_succ, List.getElem?_cons_zero]); rfl) (by rfl) ?_ (by exact hHeld) ?_
    · (intro wq hSw; have e0 := cell_blk hSw.2; go_simp)
    (try simp only [Act.put, List.setIfInBounds_toArray, List.set_cons_zero, List.set_cons_succ])
    refine t_one (i := 2) (by (simp only [List.getElem?_toArray, List.getElem?_cons_succ, List.getElem?_cons_zero]); rfl) ?_
    ((first | ((with_reducible refine q_store (t := 39) (e := 39) (g := g4) (off := 0) (n := 2) (v := .agg #[.int .i64 0, .slice none 0 0]) ?_ ?_ hB4s size39 ?_ ?_ ?_ ?_); rfl; rfl; rfl; (simp [Value.cells]); (simp [Value.cells, Value.oneCell']); intro W60 hB60 hgr60; simp [putAt, Value.cells] at hB60; replace hEs := below_grown hEs hgr60 h40 hEs.size; replace hB4s := hB60; replace hBs := hBs.grown hgr60 (fun e => n45 (Option.some.inj e).symm)) | ((with_reducible refine q_store1 (t := 27) (g := g5) (off := 0) (v := .int .i64 er) ?_ ?_ hBs size27 ?_ ?_ ?_ ?_); rfl; rfl; rfl; simp; rfl; intro Wf hBf hgrf; simp at hBf; replace hEs := below_grown hEs hgrf h50 hEs.size; replace hBs := hBf; replace hB4s := hB4s.grown hgrf (fun e => n45 (Option.some.inj e)))))
    clear hHeld; refine t_next ?_ (fun hHeld => ?_)
    · (first | exact True.intro | ((try dsimp only); (repeat' apply And.intro) <;> first | assumption | (refine Ext.cell_some (Ext.todrew (Ext.refl _)) ?_; assumption)))
    (try simp only [Act.put, List.setIfInBounds_toArray, List.set_cons_zero, List.set_cons_succ])
    refine t_one (i := 3) (by (simp only [List.getElem?_toArray, List.getElem?_cons_succ, List.getElem?_cons_zero]); rfl) ?_
    ((first | ((with_reducible refine q_store (t := 39) (e := 39) (g := g4) (off := 0) (n := 2) (v := .agg #[.int .i64 0, .slice none 0 0]) ?_ ?_ hB4s size39 ?_ ?_ ?_ ?_); rfl; rfl; rfl; (simp [Value.cells]); (simp [Value.cells, Value.oneCell']); intro W60 hB60 hgr60; simp [putAt, Value.cells] at hB60; replace hEs := below_grown hEs hgr60 h40 hEs.size; replace hB4s := hB60; replace hBs := hBs.grown hgr60 (fun e => n45 (Option.some.inj e).symm)) | ((with_reducible refine q_store1 (t := 27) (g := g5) (off := 0) (v := .int .i64 er) ?_ ?_ hBs size27 ?_ ?_ ?_ ?_); rfl; rfl; rfl; simp; rfl; intro Wf hBf hgrf; simp at hBf; replace hEs := below_grown hEs hgrf h50 hEs.size; replace hBs := hBf; replace hB4s := hB4s.grown hgrf (fun e => n45 (Option.some.inj e)))))
    clear hHeld; refine t_next ?_ (fun hHeld => ?_)
    · (first | exact True.intro | ((try dsimp only); (repeat' apply And.intro) <;> first | assumption | (refine Ext.cell_some (Ext.todrew (Ext.refl _)) ?_; assumption)))
    (try simp only [Act.put, List.setIfInBounds_toArray, List.set_cons_zero, List.set_cons_succ])
    refine t_done ?_
    (go_wp2; refine postD_none ⟨rfl, _, read_results rfl rfl hB4s hBs, ?_⟩; rw [Hre.out]; exact ⟨_, rfl, ⟨_, rfl, Sl.none_ _ _⟩, hEs⟩)
end Go.Bp
end
section
set_option maxRecDepth 100000
set_option linter.unusedSimpArgs false
set_option linter.unusedVariables false
namespace Go.Bp
open Go.RowKit Go.Proofs
/-- The document's example. -/
def exCode : Code := ⟨[⟨S [115,105,103,110,97,108], 1, 3⟩, ⟨S [115,112,101,101,100], 2, 1⟩, ⟨S [114,101,100,108,105,103,104,116], 5, 0⟩], [S [112,97,114,107]], 4⟩
def exSheet : Sheet := ⟨4, [⟨1, 0, 1⟩, ⟨3, 3, 3⟩]⟩
section
variable (w : World)
theorem bs22 (a b c d e f x y z : Value) : (Instr.buildSlice 22 3 #[(0, .agg #[a, b, c]), (1, .agg #[d, e, f]), (2, .agg #[x, y, z])]).run Tryz.prog w = .ok (.slice (some ⟨w.heap.size, 0, none⟩) 3 3) (w.alloc (.cells #[a, b, c, d, e, f, x, y, z] 74)) := by kernel_rfl
theorem bs37 (a b c d e f : Value) : (Instr.buildSlice 37 2 #[(0, .agg #[a, b, c]), (1, .agg #[d, e, f])]).run Tryz.prog w = .ok (.slice (some ⟨w.heap.size, 0, none⟩) 2 2) (w.alloc (.cells #[a, b, c, d, e, f] 99)) := by kernel_rfl
theorem bsI1 (a : Int) : (Instr.buildSlice 26 1 #[(0, .int .i64 a)]).run Tryz.prog w = .ok (.slice (some ⟨w.heap.size, 0, none⟩) 1 1) (w.alloc (.cells #[.int .i64 a] 3)) := by kernel_rfl
theorem bsI2 (a b : Int) : (Instr.buildSlice 26 2 #[(0, .int .i64 a), (1, .int .i64 b)]).run Tryz.prog w = .ok (.slice (some ⟨w.heap.size, 0, none⟩) 2 2) (w.alloc (.cells #[.int .i64 a, .int .i64 b] 3)) := by kernel_rfl
theorem bsI4 (a b c d : Int) : (Instr.buildSlice 26 4 #[(0, .int .i64 a), (1, .int .i64 b), (2, .int .i64 c), (3, .int .i64 d)]).run Tryz.prog w = .ok (.slice (some ⟨w.heap.size, 0, none⟩) 4 4) (w.alloc (.cells #[.int .i64 a, .int .i64 b, .int .i64 c, .int .i64 d] 3)) := by kernel_rfl
theorem bsI5 (a b c d e : Int) : (Instr.buildSlice 26 5 #[(0, .int .i64 a), (1, .int .i64 b), (2, .int .i64 c), (3, .int .i64 d), (4, .int .i64 e)]).run Tryz.prog w = .ok (.slice (some ⟨w.heap.size, 0, none⟩) 5 5) (w.alloc (.cells #[.int .i64 a, .int .i64 b, .int .i64 c, .int .i64 d, .int .i64 e] 3)) := by kernel_rfl
theorem bsS1 : (Instr.buildSlice 23 1 #[(0, .string (S [112,97,114,107]))]).run Tryz.prog w = .ok (.slice (some ⟨w.heap.size, 0, none⟩) 1 1) (w.alloc (.cells #[.string (S [112,97,114,107])] 9)) := by kernel_rfl
end
theorem ints_blk {w : World} {g : Nat} {xs : List Int} (h : Blk w g 3 (encI xs).toArray) (hn : xs.length ≤ 1000) : Ints w (.slice (some ⟨g, 0, none⟩) xs.length xs.length) xs :=
  ⟨_, _, rfl, Nat.le_refl _, by unfold maxLen; omega, by simp [encI], fun _ => ⟨_, rfl, h.cells⟩⟩
set_option maxHeartbeats 2000000 in
theorem Code_any (w : World) : Calls Tryz.prog 42 #[] w (Ret w fun v w' => CodeV w' v exCode) := by
  have hE := Ext.refl w
  go_enter Tryz.func42, Tryz.ntmps42
  go_wp2_with (first | ((with_reducible refine q_alloc (d := some 0) ti25 ?_); intro W0 g0 hE0 hB0 hg0; simp [Value.cells] at hB0; replace hE := hE.trans hE0) | ((with_reducible refine q_bslice (d := some 4) (t := 22) (n := 3) (e := 74) (cs := #[.string (S [115,105,103,110,97,108]), .int .i64 1, .int .i64 3, .string (S [115,112,101,101,100]), .int .i64 2, .int .i64 1, .string (S [114,101,100,108,105,103,104,116]), .int .i64 5, .int .i64 0]) ?_ ?_); (simp [Act.eval]; exact bs22 _ _ _ _ _ _ _ _ _ _); intro W4 g4 hE4 hB4 hg4; replace hE := hE.trans hE4; replace hB0 := hB0.ext hE4) | ((with_reducible refine q_bslice (d := some 5) (t := 23) (n := 1) (e := 9) (cs := #[.string (S [112,97,114,107])]) ?_ ?_); (simp [Act.eval]; exact bsS1 _); intro W5 g5 hE5 hB5 hg5; replace hE := hE.trans hE5; replace hB0 := hB0.ext hE5; replace hB4 := hB4.ext hE5) | ((with_reducible refine q_store (t := 25) (e := 25) (g := g0) (off := 0) (n := 3) (v := .agg #[.slice (some ⟨g4, 0, none⟩) 3 3, .slice (some ⟨g5, 0, none⟩) 1 1, .int .i64 4]) ?_ ?_ hB0 ?_ ?_ ?_ ?_ ?_); rfl; rfl; kernel_rfl; rfl; (simp [Value.cells]); (simp [Value.cells, Value.oneCell']); intro W6 hB6 hgr6; simp [putAt, Value.cells] at hB6; replace hE := below_grown hE hgr6 hg0 hE.size; have n4 := blk_ne hB4 hB0 (by decide); have n5 := blk_ne hB5 hB0 (by decide); replace hB4 := hB4.grown hgr6 (fun e => n4 (Option.some.inj e)); replace hB5 := hB5.grown hgr6 (fun e => n5 (Option.some.inj e))))
  have d0 := hB6.cell 0; have d1 := hB6.cell 1; have d2 := hB6.cell 2
  simp at d0 d1 d2
  refine ret_c1 rfl rfl rfl (ld_code3 d0 d1 d2) ?_
  refine ⟨_, rfl, ⟨_, _, rfl, ?_, ?_, ?_⟩, hE⟩
  · exact ⟨_, _, rfl, Nat.le_refl _, by decide, by decide, fun _ => ⟨_, rfl, hB4.cells⟩⟩
  · exact ⟨_, _, rfl, Nat.le_refl _, by decide, by decide, fun _ => ⟨_, rfl, hB5.cells⟩⟩
  · unfold Code.wf; decide +kernel
set_option maxHeartbeats 2000000 in
theorem Sheet_any (w : World) : Calls Tryz.prog 43 #[] w (Ret w fun v w' => SheetV w' v exSheet) := by
  have hE := Ext.refl w
  go_enter Tryz.func43, Tryz.ntmps43
  go_wp2_with (first | ((with_reducible refine q_alloc (d := some 0) ti39 ?_); intro W0 g0 hE0 hB0 hg0; simp [Value.cells] at hB0; replace hE := hE.trans hE0) | ((with_reducible refine q_bslice (d := some 3) (t := 37) (n := 2) (e := 99) (cs := #[.int .i64 1, .int .i64 0, .int .i64 1, .int .i64 3, .int .i64 3, .int .i64 3]) ?_ ?_); (simp [Act.eval]; exact bs37 _ _ _ _ _ _ _); intro W4 g4 hE4 hB4 hg4; replace hE := hE.trans hE4; replace hB0 := hB0.ext hE4) | ((with_reducible refine q_store (t := 39) (e := 39) (g := g0) (off := 0) (n := 2) (v := .agg #[.int .i64 4, .slice (some ⟨g4, 0, none⟩) 2 2]) ?_ ?_ hB0 size39 ?_ ?_ ?_ ?_); rfl; rfl; rfl; (simp [Value.cells]); (simp [Value.cells, Value.oneCell']); intro W6 hB6 hgr6; simp [putAt, Value.cells] at hB6; replace hE := below_grown hE hgr6 hg0 hE.size; have n4 := blk_ne hB4 hB0 (by decide); replace hB4 := hB4.grown hgr6 (fun e => n4 (Option.some.inj e))))
  refine ret_c1 rfl rfl rfl (ld_sheet hB6) ?_
  refine ⟨_, rfl, ⟨_, rfl, ?_⟩, hE⟩
  exact ⟨_, _, rfl, Nat.le_refl _, by decide, by decide, fun _ => ⟨_, rfl, hB4.cells⟩⟩
end Go.Bp
end
section
set_option maxRecDepth 100000
namespace Go.Bp
open Go.RowKit Go.Proofs
def exText : List UInt8 := [52,10,49,32,115,105,103,110,97,108,32,49,10,51,32,112,97,114,107,32,51,10]
theorem ex_judge : exCode.judge [0, 1, 3, 0] = (4, true, 0) := by kernel_rfl
theorem ex_keep : keepAns exCode [0, 1, 3, 0] [2, 4] = (exSheet, 0) := by kernel_rfl
theorem ex_fits : fitsAns exCode exSheet = (4, 0) := by kernel_rfl
theorem ex_outcome : outcomeAns exCode exSheet = (2, 0) := by kernel_rfl
theorem ex_show : showAns exCode exSheet false = ([0, 1, 3, 1], 0) := by kernel_rfl
theorem ex_enough : enoughAns exCode exSheet [4] = (true, 0) := by kernel_rfl
theorem ex_fewest : fewestAns exCode exSheet = ([4], 0) := by kernel_rfl
theorem ex_appeal : appealAns exCode [0, 1, 1, 3, 0] = ([2], 0) := by kernel_rfl
theorem ex_write : writeAns exCode exSheet = (exText, 0) := by kernel_rfl
theorem ex_read : readAns exCode (S exText) = (exSheet, 0) := by kernel_rfl
theorem ex_none : appealAns exCode [0, 0] = ((appealAns exCode [0, 0]).1, 9) := by kernel_rfl
theorem ex_sheets : sheetsEq exSheet exSheet = true := by kernel_rfl
end Go.Bp
end
section
set_option maxRecDepth 100000
namespace Go.Bp
open Go.RowKit Go.Proofs
def opsOf (n : Nat) : Go.Code → Option (Array Oper)
  | .region i ops _ => if i = n then some ops else none
  | .seq a b => (opsOf n a).or (opsOf n b)
  | _ => none
noncomputable def ops12 : Array Oper := ((Tryz.f24.body.bind (opsOf 12)).getD #[])
theorem ok12 : okTree .any ops12 (.take 0 (.take 1 (.take 2 (.take 3 (.take 4 (.take 5 (.take 6 (.take 7 (.take 8 (.take 9 (.take 10 (.take 11 (.take 12 (.take 13 (.take 14 (.take 15 (.take 16 (.take 17 (.take 18 (.take 19 (.take 20 (.take 21 (.take 22 (.take 23 (.take 24 (.take 25 (.take 26 (.take 27 (.take 28 (.take 29 (.take 30 (.take 31 (.take 32 (.take 33 (.take 34 (.take 35 (.take 36 (.take 37 (.take 38 (.take 39 (.take 40 (.take 41 (.take 42 (.take 43 (.take 44 (.take 45 (.take 46 (.take 47 (.take 48 (.take 49 (.take 50 (.one 51 (.one 52 (.take 53 (.take 54 (.take 55 (.take 56 (.take 57 (.take 58 (.take 59 (.take 60 (.take 61 (.take 62 (.take 63 (.one 64 (.one 65 (.take 66 (.take 67 (.take 68 (.take 69 (.take 70 (.take 71 (.one 72 (.one 73 (.take 74 (.take 75 (.take 76 (.one 77 (.one 78 (.take 79 (.take 80 (.take 81 (.take 82 (.take 83 (.take 84 (.take 85 (.one 86 (.one 87 (.take 88 (.take 89 .nil)))))))))))))))))))))))))))))))))))))))))))))))))))))))))))))))))))))))))))))))))))))))))) (Array.replicate ops12.size false) = true := by kernel_rfl
end Go.Bp
end
