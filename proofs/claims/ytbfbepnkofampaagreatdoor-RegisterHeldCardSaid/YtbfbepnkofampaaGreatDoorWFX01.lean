/- The tied card of RegisterHeld is proved: for every input the law returns true, and each argument reads afterwards as it read before; condition: the listed package variables start as the text lays them (the card ties them). -/
import Derived.Test.YtbfbepnkofampaaGreatDoorWBCDEFX01
import Derived.Test.YtbfbepnkofampaaGreatDoorWBCDFX01
import Derived.Test.YtbfbepnkofampaaGreatDoorWBCFX01
import Derived.Test.YtbfbepnkofampaaGreatDoorWF01
set_option maxRecDepth 100000
set_option linter.all false
section
namespace Go.Rg
open Go Go.Bp Go.RowKit Go.Walk Go.Proofs Go.ChangeShapes Go.WideShapes Go.ChangeAt
section
variable {H : Type} {enc : TypeId × Value → H} {w : World} {b0 : Nat}
theorem arg_drives {v : Value} {d : DataW H} {p : List MemPlace} (hv : Value.okWide Tryz.prog w .any b0 53 v) (h : DataW.Trod enc Tryz.prog w 0 (fun _ => true) true 53 v d p) : ∃ l : List Drive, ListV w v l := by
 obtain ⟨a, l, c, rfl⟩ := okWide_slice Tryz.underlying53 hv
 obtain ⟨fuel, h⟩ := h
 obtain ⟨A, c', xs, h1, h2, _⟩ := open_list (α := Drive) (fun _ => True) Tryz.underlying53 cells57 (fun n c1 y hy => by obtain ⟨k, hk⟩ := at_drive hy; exact ⟨k, hk, trivial⟩) h
 simp [Value.cells] at h1
 obtain ⟨rfl, rfl, rfl⟩ := h1
 exact ⟨xs, h2⟩
end
end Go.Rg
end
section
namespace Go.Proofs.YtbfbepnkofampaaGreatDoor
open Go Go.Bp Go.Rg Go.Walk Go.RowKit Go.Proofs Go.ChangeShapes Go.WideShapes Go.ChangeAt
theorem ip9 : (Rows.registerHeldRow.inPlace == Tryz.pinned.checked.prog.inPlace 9) = true := by kernel_rfl
theorem uf9 : (Rows.registerHeldRow.unfollowed == Tryz.pinned.checked.prog.unfollowed 9) = true := by kernel_rfl
theorem rc9 : (Rows.registerHeldRow.recurses == Tryz.pinned.checked.prog.recurses 9) = true := by kernel_rfl
theorem nm9 : (Rows.registerHeldRow.named == Tryz.pinned.checked.prog.varsNamed 9) = true := by kernel_rfl
theorem wf9 : Rows.registerHeldRow.wfByText (OpenSpec.ofChange Rows.registerHeldSpec) = true := by kernel_rfl
theorem gs9 : false = Rows.registerHeldRow.goesBy Tryz.pinned.checked.prog := by kernel_rfl
theorem fm9 : Tryz.prog.funcNamed Rows.registerHeldRow.func = some 9 := by kernel_rfl
theorem closed9 : joinedFacts Tryz.pinned.checked.prog 9 Tryz.f9 Rows.registerHeldSpec Rows.registerHeldRow = true := by
  unfold joinedFacts
  rw [ip9, uf9, rc9, nm9, loP, mrP, meP, shP, show (Rows.registerHeldRow.lifted == Tryz.pinned.checked.prog.liftsFinal) = true from liP, show (Tryz.pinned.checked.prog.make == some Rows.registerHeldRow.make) = true from mkP]
  kernel_rfl
end Go.Proofs.YtbfbepnkofampaaGreatDoor
end
section
namespace Go.Rg
open Go Go.Bp Go.RowKit Go.Walk Go.Proofs
set_option synthInstance.maxSize 2000
set_option synthInstance.maxHeartbeats 400000
set_option maxHeartbeats 4000000
theorem hasTo_succ {l : List Span} {d : Int} {k : Nat} (hk : k < l.length) : hasDay (l.take (k + 1)) d = (hasDay (l.take k) d || (decide (l[k].lo ≤ d) && decide (d ≤ l[k].hi))) := by
 rw [List.take_succ_eq_append_getElem hk, has_app]
 congr 1
 unfold hasDay inB
 simp
/-- What the law looks at for a drive. -/
theorem held_ready {r : Rules} {p : Person} {ds : List Drive} {l : List (Int × Int)} {bl : List Span} (hz : r.personErr p = 0) (hw : r.wrongAns p ds = (l, 0)) (hb : r.bansAns p = (bl, 0)) :
  ds.length ≤ 30 ∧ l = wrongTo (r.whyL p.born (sortE p.events)) ds ds.length ∧
  (∀ k (hk : k < ds.length), ∃ L n, n = r.whyL p.born (sortE p.events) ds[k] ∧ r.heldAns p ds[k].day = (L, 0) ∧ r.whyAns p ds[k] = (n, 0) ∧ r.sys.mayAns L ds[k].cls ds[k].features = (decide (n = 0), 0) ∧ (hasDay bl ds[k].day = true ↔ n = 1 ∨ n = 2) ∧ (n = 1 ∨ n = 2 → L = [])) ∧
  (∀ k (hk : k < bl.length), bl[k].lo ≤ bl[k].hi ∧ ∀ (h0 : 0 < k), (bl[k-1]'(by omega)).hi + 1 < bl[k].lo) ∧ ∀ s ∈ bl, s.hi ≤ 40000 ∧ 0 ≤ s.lo := by
 unfold Rules.wrongAns at hw
 rw [if_neg (by simpa using hz)] at hw
 by_cases hn : 30 < ds.length
 ·rw [if_pos hn] at hw; injection hw with _ e; cases e
 rw [if_neg hn] at hw
 obtain ⟨⟨fa, fe⟩, hf⟩ : ∃ x, (firstE ds fun _ d => r.driveErr p d) = x := ⟨_, rfl⟩
 rw [hf] at hw
 simp only at hw
 by_cases hq : fe = 0
 case neg =>
  rw [if_pos hq] at hw
  injection hw with _ e; exact absurd e hq
 subst hq
 rw [if_neg (by simp)] at hw
 injection hw with hw
 subst hw
 have hdr : ∀ k (hk : k < ds.length), r.driveErr p ds[k] = 0 := fun k hk => firstE_zero (f := fun _ d => r.driveErr p d) (by rw [hf]) k hk
 unfold Rules.bansAns at hb
 rw [if_neg (by simpa using hz)] at hb
 injection hb with hb
 obtain ⟨hR, hR2⟩ := runsTo_runs (r.bansOf (sortE p.events)) 40001
 rw [hb] at hR hR2
 refine ⟨by omega, (wrongTo_all r p ds).symm, fun k hk => ?_, fun k hk => ⟨hR.le _ (List.getElem_mem hk), fun h0 => ?_⟩, fun s hs => ?_⟩
 ·obtain ⟨L, n, h1, h2, h3, h4, h5, _⟩ := Rules.held_law hz (hdr k hk)
  have hn2 : n = r.whyL p.born (sortE p.events) ds[k] := by
   have h2' := h2
   unfold Rules.whyAns at h2'
   rw [if_neg (by simpa using hz), if_neg (by simpa using hdr k hk)] at h2'
   injection h2' with e; exact e.symm
  exact ⟨L, n, hn2, h1, h2, h3, by rw [← hb]; exact h4, h5⟩
 ·exact List.pairwise_iff_getElem.1 hR.gap (k - 1) k (by omega) hk (by omega)
 ·refine ⟨by have := hR2 s hs; omega, ?_⟩
  have h1 : hasDay bl s.lo = true := has_mem.2 ⟨s, hs, Int.le_refl _, hR.le s hs⟩
  exact ((hR.has s.lo).1 h1).2.1
set_option maxHeartbeats 16000000 in
theorem LHeld (r : Rules) (p : Person) (v pv dv : Value) (ds : List Drive) (w : World) (h : RulesV w v r) (hp : PersonV w pv p) (hd : ListV w dv ds) (hv : EnvC w) :
  Calls Tryz.prog 9 #[v, pv, dv] w (RB w true) := by
 obtain ⟨A1, n1, c1, A2, n2, c2, A3, n3, c3, rfl⟩ := h.form
 obtain ⟨A, c, rfl, -⟩ := hp.h
 obtain ⟨AD, kD, rfl, -⟩ := hd.form
 have hcap := hd.caps
 have i1 := RulesB.mk h
 have i9 := SysB.mk h.sys
 have i2 := PersonB.mk hp
 have i3 := ListB.mk hd
 have i0 := EnvB.mk hv.h
 obtain ⟨⟨W, n⟩, hw⟩ : ∃ x, r.wrongAns p ds = x := ⟨_, rfl⟩
 have j1 := WrongE.mk hw
 by_cases z : n = 0
 case neg =>
  have hW : W = [] := by
   unfold Rules.wrongAns at hw
   split at hw
   ·injection hw with e; exact e.symm
   ·split at hw
    ·injection hw with e; exact e.symm
    ·split at hw
     ·injection hw with e; exact e.symm
     ·injection hw with _ e; exact absurd e.symm z
  subst hW
  have q1 : (n != 0) = true := by simpa using z
  clear hw z
  go_enter Tryz.func9, Tryz.ntmps9
  go_wp2_with (first | ((first | with_reducible refine call_c ?_); rintro _ V ⟨rfl, (_ : StepC _ _)⟩; (try simp only [eq_self, decide_true])) | (first | go_skip | (with_reducible refine load_c ?_) | (with_reducible refine call_c ?_; first | rintro _ V ⟨_, _, rfl, _, (_ : StepC _ _)⟩) | (with_reducible refine box_c ?_; intro V g _ _ _)))
  all_goals
   go_ret
   exact ⟨rfl, ⟨ExtC.h⟩⟩
 subst z
 have hz : r.personErr p = 0 := by
  unfold Rules.wrongAns at hw
  split at hw
  ·rename_i h1; exact absurd (congrArg Prod.snd hw) h1
  ·rename_i h1; simpa using h1
 obtain ⟨⟨bl, nb⟩, hb⟩ : ∃ x, r.bansAns p = x := ⟨_, rfl⟩
 obtain rfl : nb = 0 := by
  unfold Rules.bansAns at hb
  rw [if_neg (by simpa using hz)] at hb
  injection hb with _ e; exact e.symm
 obtain ⟨g1, g2, g3, g4, g5⟩ := held_ready hz hw hb
 have j2 : RPerE r p 0 := ⟨hz⟩
 have j3 := BansE.mk hb
 have q30 : decide ((ds.length : Int) > 30) = false := by simp; omega
 obtain ⟨f, hf⟩ : ∃ f, r.whyL p.born (sortE p.events) = f := ⟨_, rfl⟩
 rw [hf] at g2 g3
 have H2 := Lib.hid g2
 have H3 := Lib.hid g3
 have H4 := Lib.hid g4
 have H5 := Lib.hid g5
 clear hw hz hb hf g2 g3 g4 g5
 go_enter Tryz.func9, Tryz.ntmps9
 go_wp2_with (first | (with_reducible refine call_c ?_; rintro _ Vb ⟨Ab, cb, Bb, rfl, hRb, (_ : StepC _ _)⟩) | ((first | with_reducible refine call_c ?_); rintro _ V ⟨rfl, (_ : StepC _ _)⟩; (try simp only [eq_self, decide_true])) | (first | (with_reducible refine load_c ?_) | (with_reducible refine load_g ?_) | (with_reducible refine call_c ?_; first | rintro _ V ⟨_, _, rfl, _, (_ : StepC _ _)⟩) | (with_reducible refine box_c ?_; intro V g _ _ _)))
 have jB := ListB.mk (hRb.list (l := bl) rfl rfl rfl)
 have hBc := jB.h.caps
 go_loopw [10, 11] (fun lv iv wr => StepC Vb wr ∧ ∃ (k : Nat) (o : List (Int × Int)) (Ao : Option Addr) (co : Nat), k ≤ ds.length ∧ iv = .int .i64 k ∧ o = wrongTo f ds k ∧ lv = .slice Ao o.length co ∧ RowC wr (.slice Ao o.length co) Vb 97 2 o.length (encL o) ∧ o.length ≤ k) (fun _ iv _ => ds.length - (RowKit.intOf iv).toNat)
 case atStart => exact ⟨⟨ExtC.h⟩, 0, [], none, 0, by omega, rfl, (wrongTo_zero _ _).symm, rfl, RowC.nil, by simp⟩
 case round =>
  obtain ⟨_, k, o, Ao, co, hk, rfl, ho, rfl, hRo, hok⟩ := hrel
  by_cases lk : k < ds.length
  ·obtain ⟨ad, rfl, hc⟩ := hd.elem lk
   have hsu := wrongTo_succ f ds lk
   rw [← ho] at hsu
   obtain ⟨L, n, e1, e2, e3, e4, e5, e6⟩ := H3.out k lk
   rw [← e1] at hsu
   obtain ⟨⟨dd, dc, df⟩, hx⟩ : ∃ x, ds[k] = x := ⟨_, rfl⟩
   rw [hx] at hc e2 e3 e4 e5
   simp only at e2 e4 e5
   have i9 : CellsB w (ad.add (k * 3)) [.int .i64 dd, .int .i64 dc, .int .i64 df] := ⟨hc⟩
   have zk : IntKind.i64.wrap ((k : Int) + 1) = (k : Int) + 1 := IntWalk.i64_in _ (by omega)
   have j5 := HeldE.mk e2
   have j6 := WhyAE.mk e3
   obtain ⟨m0, hm0⟩ : ∃ b, decide (n = 0) = b := ⟨_, rfl⟩
   rw [hm0] at e4
   have q0 : (n == 0) = m0 := by rw [← hm0]; rfl
   have j7 : MayE r.sys L dc df m0 0 := ⟨e4⟩
   obtain ⟨B, hB⟩ : ∃ b, hasDay bl dd = b := ⟨_, rfl⟩
   rw [hB] at e5
   have Hb := Lib.hid hB
   have E5 := Lib.hid e5
   have E6 := Lib.hid e6
   have Hsu := Lib.hid hsu
   clear hc hx ho hsu e1 e2 e3 e4 e5 e6 hB hm0
   go_wp2
   refine wp_rd ((.take 0 (.take 1 (.take 2 (.take 3 (.take 4 (.take 5 (.one 6 (.take 7 (.take 8 (.take 9 (.take 10 (.take 11 .nil))))))))))))) (fun hHeld => ?_) (hQ := by intro _ _ _ _ _ h; exact h)
   repeat' first | ((with_reducible refine t_tk ?_); (first | (refine tk (v := ?_) ?_ hHeld ?_; rotate_left; (· (intro W' h; have := StepC.mk h; first | with_reducible exact run_lc))) | (refine tk (v := ?_) ?_ hHeld ?_; rotate_left; (· (intro wq hSw; go_simp; (try with_reducible rfl))))); (try simp only [pS])) | ((with_reducible refine t_on ?_); refine t_one (by simp only [gS]; rfl) ?_) | ((first | with_reducible refine callop_c ?_); first | (rintro _ V ⟨rfl, (_ : StepC _ _)⟩; refine ⟨_, rfl, ?_⟩)) | ((with_reducible refine q_nl ?_); clear hHeld; refine t_next ExtC.h (fun hHeld => ?_); (try simp only [pS])) | (with_reducible refine t_done ?_)
   go_wp2
   refine wp_rd ((.take 0 (.take 1 (.take 2 (.take 3 (.take 4 (.take 5 (.take 6 (.one 7 (.take 8 (.take 9 (.take 10 (.take 11 (.take 12 .nil)))))))))))))) (fun hHeld => ?_) (hQ := by intro _ _ _ _ _ h; exact h)
   repeat' first | ((with_reducible refine t_tk ?_); (first | (refine tk (v := ?_) ?_ hHeld ?_; rotate_left; (· (intro W' h; have := StepC.mk h; first | with_reducible exact run_lc))) | (refine tk (v := ?_) ?_ hHeld ?_; rotate_left; (· (intro wq hSw; go_simp; (try with_reducible rfl))))); (try simp only [pS])) | ((with_reducible refine t_on ?_); refine t_one (by simp only [gS]; rfl) ?_) | ((first | with_reducible refine callop_c ?_); first | (rintro _ V ⟨_, _, _, rfl, (_ : RowC _ _ _ _ _ _ _), (_ : StepC _ _)⟩; refine ⟨_, rfl, ?_⟩)) | ((with_reducible refine q_nl ?_); clear hHeld; refine t_next ExtC.h (fun hHeld => ?_); (try simp only [pS])) | (with_reducible refine t_done ?_)
   go_wp2
   refine wp_rd ((.take 0 (.take 1 (.take 2 (.take 3 (.take 4 (.take 5 (.take 6 (.take 7 (.take 8 (.take 9 (.take 10 (.take 11 (.take 12 (.one 13 (.take 14 (.take 15 (.take 16 (.take 17 (.take 18 .nil)))))))))))))))))))) (fun hHeld => ?_) (hQ := by intro _ _ _ _ _ h; exact h)
   repeat' first | ((with_reducible refine t_tk ?_); (first | (refine tk (v := ?_) ?_ hHeld ?_; rotate_left; (· (intro W' h; have := StepC.mk h; first | with_reducible exact run_lc))) | (refine tk (v := ?_) ?_ hHeld ?_; rotate_left; (· (intro wq hSw; go_simp; (try with_reducible rfl))))); (try simp only [pS])) | ((with_reducible refine t_on ?_); refine t_one (by simp only [gS]; rfl) ?_) | ((first | with_reducible refine callop_c ?_); first | (rintro _ V ⟨rfl, (_ : StepC _ _)⟩; refine ⟨_, rfl, ?_⟩)) | ((with_reducible refine q_nl ?_); clear hHeld; refine t_next ExtC.h (fun hHeld => ?_); (try simp only [pS])) | (with_reducible refine t_done ?_)
   go_wp2
   obtain ⟨Vq, hVq⟩ : ∃ X, X = V := ⟨_, rfl⟩
   subst hVq
   go_loopw [18, 19] (fun tv jv wr2 => StepC Vq wr2 ∧ ∃ j : Nat, j ≤ bl.length ∧ tv = .bool (hasDay (bl.take j) dd) ∧ jv = .int .i64 j) (fun _ jv _ => bl.length - (RowKit.intOf jv).toNat)
   case atStart => exact ⟨⟨ExtC.h⟩, 0, by omega, rfl, rfl⟩
   case round =>
    obtain ⟨_, j, hj, rfl, rfl⟩ := hrel
    by_cases lj : j < bl.length
    ·obtain ⟨ab, rfl, hab⟩ := jB.h.elem lj
     have hsj := hasTo_succ (d := dd) lj
     obtain ⟨t0, ht0⟩ : ∃ x, hasDay (bl.take j) dd = x := ⟨_, rfl⟩
     rw [ht0] at hsj ⊢
     obtain ⟨⟨lo, hi⟩, hsx⟩ : ∃ x, bl[j] = x := ⟨_, rfl⟩
     rw [hsx] at hab hsj
     simp only at hsj
     have i6 : CellsB Vb (ab.add (j * 2)) [.int .i64 lo, .int .i64 hi] := ⟨hab⟩
     have zj : IntKind.i64.wrap ((j : Int) + 1) = (j : Int) + 1 := IntWalk.i64_in _ (by omega)
     obtain ⟨b1, hb1⟩ : ∃ b, decide (lo ≤ dd) = b := ⟨_, rfl⟩
     obtain ⟨b2, hb2⟩ : ∃ b, decide (dd ≤ hi) = b := ⟨_, rfl⟩
     rw [hb1, hb2] at hsj
     clear ht0 hab hsx
     cases t0
     ·cases b1
      ·skip
       have Hin := Lib.hid (show hasDay (bl.take (j + 1)) dd = false by rw [hsj]; simp)
       clear hsj
       go_wp2
       refine wp_rd ((.take 0 (.take 1 (.take 2 (.take 3 (.take 4 (.take 5 (.take 6 (.take 7 (.take 8 (.take 9 (.take 10 (.take 11 (.take 12 (.take 13 (.take 14 (.take 15 (.take 16 (.take 17 (.take 18 (.take 19 (.take 20 (.take 21 (.take 22 (.take 23 (.take 24 (.take 25 (.take 26 (.take 27 .nil))))))))))))))))))))))))))))) (fun hHeld => ?_) (hQ := by intro _ _ _ _ _ h; exact h)
       repeat' first | ((with_reducible refine t_tk ?_); (first | (refine tk (v := ?_) ?_ hHeld ?_; rotate_left; (· (intro wq hSw; go_simp; (try with_reducible rfl)))) | (refine tw (v := ?_) ?_ hHeld ?_; rotate_left; (· (intro W' h; have := StepC.mk h; first | with_reducible exact run_lc))) | (refine tw (v := ?_) ?_ hHeld ?_; rotate_left; (· (intro wq hSw; go_simp; (try with_reducible rfl)))) | (refine ts hHeld ?_)); (try simp only [pS])) | (with_reducible refine t_done ?_)
       all_goals
        go_wp2
        exact ⟨⟨⟨ExtC.h⟩, j + 1, by omega, by rw [Hin.out], by push_cast; rfl⟩, by simp [RowKit.intOf]; omega⟩
      ·cases b2
       ·skip
        have Hin := Lib.hid (show hasDay (bl.take (j + 1)) dd = false by rw [hsj]; simp)
        clear hsj
        go_wp2
        refine wp_rd ((.take 0 (.take 1 (.take 2 (.take 3 (.take 4 (.take 5 (.take 6 (.take 7 (.take 8 (.take 9 (.take 10 (.take 11 (.take 12 (.take 13 (.take 14 (.take 15 (.take 16 (.take 17 (.take 18 (.take 19 (.take 20 (.take 21 (.take 22 (.take 23 (.take 24 (.take 25 (.take 26 (.take 27 .nil))))))))))))))))))))))))))))) (fun hHeld => ?_) (hQ := by intro _ _ _ _ _ h; exact h)
        repeat' first | ((with_reducible refine t_tk ?_); (first | (refine tk (v := ?_) ?_ hHeld ?_; rotate_left; (· (intro wq hSw; go_simp; (try with_reducible rfl)))) | (refine tw (v := ?_) ?_ hHeld ?_; rotate_left; (· (intro W' h; have := StepC.mk h; first | with_reducible exact run_lc))) | (refine tw (v := ?_) ?_ hHeld ?_; rotate_left; (· (intro wq hSw; go_simp; (try with_reducible rfl))))); (try simp only [pS])) | (with_reducible refine t_done ?_)
        all_goals
         go_wp2
         exact ⟨⟨⟨ExtC.h⟩, j + 1, by omega, by rw [Hin.out], by push_cast; rfl⟩, by simp [RowKit.intOf]; omega⟩
       ·skip
        have Hin := Lib.hid (show hasDay (bl.take (j + 1)) dd = true by rw [hsj]; simp)
        clear hsj
        go_wp2
        refine wp_rd ((.take 0 (.take 1 (.take 2 (.take 3 (.take 4 (.take 5 (.take 6 (.take 7 (.take 8 (.take 9 (.take 10 (.take 11 (.take 12 (.take 13 (.take 14 (.take 15 (.take 16 (.take 17 (.take 18 (.take 19 (.take 20 (.take 21 (.take 22 (.take 23 (.take 24 (.take 25 (.take 26 (.take 27 .nil))))))))))))))))))))))))))))) (fun hHeld => ?_) (hQ := by intro _ _ _ _ _ h; exact h)
        repeat' first | ((with_reducible refine t_tk ?_); (first | (refine tk (v := ?_) ?_ hHeld ?_; rotate_left; (· (intro wq hSw; go_simp; (try with_reducible rfl)))) | (refine tw (v := ?_) ?_ hHeld ?_; rotate_left; (· (intro W' h; have := StepC.mk h; first | with_reducible exact run_lc))) | (refine tw (v := ?_) ?_ hHeld ?_; rotate_left; (· (intro wq hSw; go_simp; (try with_reducible rfl))))); (try simp only [pS])) | (with_reducible refine t_done ?_)
        all_goals
         go_wp2
         exact ⟨⟨⟨ExtC.h⟩, j + 1, by omega, by rw [Hin.out], by push_cast; rfl⟩, by simp [RowKit.intOf]; omega⟩
     ·skip
      have Hin := Lib.hid (show hasDay (bl.take (j + 1)) dd = true by rw [hsj]; simp)
      clear hsj
      go_wp2
      refine wp_rd ((.take 0 (.take 1 (.take 2 (.take 3 (.take 4 (.take 5 (.take 6 (.take 7 (.take 8 (.take 9 (.take 10 (.take 11 (.take 12 (.take 13 (.take 14 (.take 15 (.take 16 (.take 17 (.take 18 (.take 19 (.take 20 (.take 21 (.take 22 (.take 23 (.take 24 (.take 25 (.take 26 (.take 27 .nil))))))))))))))))))))))))))))) (fun hHeld => ?_) (hQ := by intro _ _ _ _ _ h; exact h)
      repeat' first | ((with_reducible refine t_tk ?_); (first | (refine tk (v := ?_) ?_ hHeld ?_; rotate_left; (· (intro wq hSw; go_simp; (try with_reducible rfl)))) | (refine ts hHeld ?_)); (try simp only [pS])) | (with_reducible refine t_done ?_)
      all_goals
       go_wp2
       exact ⟨⟨⟨ExtC.h⟩, j + 1, by omega, by rw [Hin.out], by push_cast; rfl⟩, by simp [RowKit.intOf]; omega⟩
    ·obtain rfl : j = bl.length := by omega
     rw [List.take_length, Hb.out]
     have e5 := E5.out
     have e6 := E6.out
     have hsu := Hsu.out
     by_cases n1 : n = 1
     ·have e := e6 (.inl n1)
      obtain rfl : B = true := e5.2 (.inl n1)
      have r1 : (n == 1) = true := by simp [n1]
      have r3 : (n != 0) = true := by simp [n1]
      have r4 : decide ((L.length : Int) > 0) = false := by simp [e]
      have r5 : ¬ (0 < L.length) := by simp [e]
      have r6 : decide (0 < L.length) = false := by simp [e]
      rw [if_pos (by omega)] at hsu
      have Hsv := Lib.hid hsu
      clear e5 e6 hsu n1 e
      go_wp2_with (first | (with_reducible refine bslice_c ?_; intro V g _ _ _) | (with_reducible refine append_c ?_; intro _ _ V hR _))
      obtain ⟨A8, c8, e8, h8⟩ := snoc_rel (l := o) (x := (((k : Int), n) : Int × Int)) Hsv.out hR
      exact ⟨⟨⟨ExtC.h⟩, k + 1, _, A8, c8, lk, by push_cast; rfl, rfl, e8, h8, by rw [Hsv.out]; simp; omega⟩, by simp [RowKit.intOf]; omega⟩
     have r1 : (n == 1) = false := by simpa using n1
     by_cases n2 : n = 2
     ·have e := e6 (.inr n2)
      obtain rfl : B = true := e5.2 (.inr n2)
      have r2 : (n == 2) = true := by simp [n2]
      have r3 : (n != 0) = true := by simp [n2]
      have r4 : decide ((L.length : Int) > 0) = false := by simp [e]
      have r5 : ¬ (0 < L.length) := by simp [e]
      have r6 : decide (0 < L.length) = false := by simp [e]
      rw [if_pos (by omega)] at hsu
      have Hsv := Lib.hid hsu
      clear e5 e6 hsu n1 n2 e
      go_wp2_with (first | (with_reducible refine bslice_c ?_; intro V g _ _ _) | (with_reducible refine append_c ?_; intro _ _ V hR _))
      obtain ⟨A8, c8, e8, h8⟩ := snoc_rel (l := o) (x := (((k : Int), n) : Int × Int)) Hsv.out hR
      exact ⟨⟨⟨ExtC.h⟩, k + 1, _, A8, c8, lk, by push_cast; rfl, rfl, e8, h8, by rw [Hsv.out]; simp; omega⟩, by simp [RowKit.intOf]; omega⟩
     have r2 : (n == 2) = false := by simpa using n2
     obtain rfl : B = false := by
      cases B
      ·rfl
      ·rcases e5.1 rfl with h | h
       ·exact absurd h n1
       ·exact absurd h n2
     by_cases n0 : n = 0
     ·have r3 : (n != 0) = false := by simp [n0]
      rw [if_neg (by simpa using n0), List.append_nil] at hsu
      have Hsv := Lib.hid hsu
      clear e5 e6 hsu n1 n2 n0
      go_wp2
      exact ⟨⟨⟨ExtC.h⟩, k + 1, o, Ao, co, lk, by push_cast; rfl, Hsv.out.symm, rfl, inferInstance, by omega⟩, by simp [RowKit.intOf]; omega⟩
     ·have r3 : (n != 0) = true := by simpa using n0
      rw [if_pos n0] at hsu
      have Hsv := Lib.hid hsu
      clear e5 e6 hsu n1 n2 n0
      go_wp2_with (first | (with_reducible refine bslice_c ?_; intro V g _ _ _) | (with_reducible refine append_c ?_; intro _ _ V hR _))
      obtain ⟨A8, c8, e8, h8⟩ := snoc_rel (l := o) (x := (((k : Int), n) : Int × Int)) Hsv.out hR
      exact ⟨⟨⟨ExtC.h⟩, k + 1, _, A8, c8, lk, by push_cast; rfl, rfl, e8, h8, by rw [Hsv.out]; simp; omega⟩, by simp [RowKit.intOf]; omega⟩
  ·obtain rfl : k = ds.length := by omega
   rw [← H2.out] at ho
   subst ho
   go_wp2
   go_loopw [20] (fun jv wr2 => StepC wr wr2 ∧ ∃ j : Nat, j ≤ bl.length ∧ jv = .int .i64 j) (fun jv _ => bl.length - (RowKit.intOf jv).toNat)
   case atStart => exact ⟨⟨ExtC.h⟩, 0, by omega, rfl⟩
   case round =>
    obtain ⟨_, j, hj, rfl⟩ := hrel
    by_cases lj : j < bl.length
    ·obtain ⟨ab, rfl, hab⟩ := jB.h.elem lj
     obtain ⟨p1, p2⟩ := H4.out j lj
     have p3 := H5.out _ (List.getElem_mem lj)
     have zj : IntKind.i64.wrap ((j : Int) + 1) = (j : Int) + 1 := IntWalk.i64_in _ (by omega)
     by_cases j0 : j = 0
     ·obtain ⟨⟨lo, hi⟩, hsx⟩ : ∃ x, bl[j] = x := ⟨_, rfl⟩
      rw [hsx] at hab p1 p3
      simp only at p1
      have i6 : CellsB Vb (ab.add (j * 2)) [.int .i64 lo, .int .i64 hi] := ⟨hab⟩
      have q5 : decide (lo > hi) = false := by simp; omega
      have q6 : decide ((j : Int) > 0) = false := by simp; omega
      have q7 : ¬ (0 < j) := by omega
      have q8 : ¬ (lo > hi) := by omega
      have J0 := Lib.hid j0
      clear hab hsx p2 p3 j0
      go_wp2
      refine wp_rd ((.take 0 (.take 1 (.take 2 (.take 3 (.take 4 (.take 5 (.take 6 (.take 7 (.take 8 (.take 9 (.take 10 (.take 11 (.take 12 (.take 13 (.take 14 (.take 15 (.take 16 (.take 17 (.take 18 (.take 19 (.take 20 (.take 21 (.take 22 (.take 23 (.take 24 (.take 25 (.take 26 (.take 27 (.take 28 (.take 29 .nil))))))))))))))))))))))))))))))) (fun hHeld => ?_) (hQ := by intro _ _ _ _ _ h; exact h)
      repeat' first | ((with_reducible refine t_tk ?_); (first | (refine tk (v := ?_) ?_ hHeld ?_; rotate_left; (· (intro W' h; have := StepC.mk h; first | with_reducible exact run_lc))) | (refine tk (v := ?_) ?_ hHeld ?_; rotate_left; (· (intro wq hSw; go_simp; (try with_reducible rfl)))) | (refine tw (v := ?_) ?_ hHeld ?_; rotate_left; (· (intro wq hSw; go_simp; (try with_reducible rfl)))) | (refine ts hHeld ?_)); (try simp only [pS])) | (with_reducible refine t_done ?_)
      all_goals
       go_wp2
       exact ⟨⟨⟨ExtC.h⟩, j + 1, by omega, by push_cast; rfl⟩, by simp [RowKit.intOf]; omega⟩
     ·obtain ⟨_, e1, hab'⟩ := jB.h.elem (show j - 1 < bl.length by omega)
      injection e1 with e1
      subst e1
      have p2 := p2 (by omega)
      have p4 := H5.out _ (List.getElem_mem (show j - 1 < bl.length by omega))
      have p5 := (H4.out (j - 1) (by omega)).1
      obtain ⟨⟨lo', hi'⟩, hsx'⟩ : ∃ x, bl[j - 1]'(by omega) = x := ⟨_, rfl⟩
      rw [hsx'] at hab' p2 p4 p5
      obtain ⟨⟨lo, hi⟩, hsx⟩ : ∃ x, bl[j] = x := ⟨_, rfl⟩
      rw [hsx] at hab p1 p2 p3
      simp only at p1 p2 p3 p4 p5
      obtain ⟨j', rfl⟩ : ∃ j', j = j' + 1 := ⟨j - 1, by omega⟩
      rw [Nat.add_sub_cancel] at hab'
      have i6 : CellsB Vb (ab.add ((j' + 1) * 2)) [.int .i64 lo, .int .i64 hi] := ⟨hab⟩
      have i7 : CellsB Vb (ab.add (j' * 2)) [.int .i64 lo', .int .i64 hi'] := ⟨hab'⟩
      obtain ⟨J, hJ⟩ : ∃ J, j' + 1 = J := ⟨_, rfl⟩
      rw [hJ] at i6 zj lj hj ⊢
      have q5 : decide (lo > hi) = false := by simp; omega
      have q6 : decide ((J : Int) > 0) = true := by simp; omega
      have q61 : 0 < J := by omega
      have q51 : ¬ (lo > hi) := by omega
      have q91 : ¬ (lo ≤ hi' + 1) := by omega
      have q7 : IntKind.i64.wrap ((J : Int) - 1) = (j' : Int) := by rw [show (J : Int) - 1 = (j' : Int) by omega]; exact IntWalk.i64_in _ (by omega)
      have q8 : IntKind.i64.wrap (hi' + 1) = hi' + 1 := IntWalk.i64_in _ (by omega)
      have q9 : decide (lo ≤ hi' + 1) = false := by simp; omega
      have q10 : j' < bl.length := by omega
      clear hab hab' hsx hsx' p1 p2 p3 p4 p5 hJ j0
      go_wp2
      refine wp_rd ((.take 0 (.take 1 (.take 2 (.take 3 (.take 4 (.take 5 (.take 6 (.take 7 (.take 8 (.take 9 (.take 10 (.take 11 (.take 12 (.take 13 (.take 14 (.take 15 (.take 16 (.take 17 (.take 18 (.take 19 (.take 20 (.take 21 (.take 22 (.take 23 (.take 24 (.take 25 (.take 26 (.take 27 (.take 28 (.take 29 .nil))))))))))))))))))))))))))))))) (fun hHeld => ?_) (hQ := by intro _ _ _ _ _ h; exact h)
      repeat' first | ((with_reducible refine t_tk ?_); (first | (refine tk (v := ?_) ?_ hHeld ?_; rotate_left; (· (intro W' h; have := StepC.mk h; first | with_reducible exact run_lc))) | (refine tk (v := ?_) ?_ hHeld ?_; rotate_left; (· (intro wq hSw; go_simp; (try with_reducible rfl)))) | (refine tw (v := ?_) ?_ hHeld ?_; rotate_left; (· (intro W' h; have := StepC.mk h; first | with_reducible exact run_lc))) | (refine tw (v := ?_) ?_ hHeld ?_; rotate_left; (· (intro wq hSw; go_simp; (try with_reducible rfl))))); (try simp only [pS])) | (with_reducible refine t_done ?_)
      all_goals
       go_wp2
       exact ⟨⟨⟨ExtC.h⟩, J + 1, by omega, by push_cast; rfl⟩, by simp [RowKit.intOf]; omega⟩
    ·obtain rfl : j = bl.length := by omega
     go_wp2_with (first | ((first | with_reducible refine call_c ?_); rintro _ V ⟨rfl, (_ : StepC _ _)⟩; (try simp only [eq_self, decide_true])))
     all_goals
      go_ret
      exact ⟨rfl, ⟨ExtC.h⟩⟩
end Go.Rg
end
section
namespace Go.Proofs.YtbfbepnkofampaaGreatDoor
open Go Go.Bp Go.Rg Go.Walk Go.RowKit Go.Proofs Go.ChangeShapes Go.WideShapes Go.ChangeAt
theorem lifted9 (os : Os) (started : os.Started) (H : Type) (enc : TypeId × Value → H) :
    ReturnsInHanded {} Tryz.checked os 9 .any (fun w args => (Go.Proofs.YtbfbepnkofampaaGreatDoor.Rows.registerHeldSpec.pre enc Tryz.prog Tryz.f9 [] false w args ∧ laidMetH Tryz.prog listed w) ∧ sizedMet enc Tryz.prog Tryz.f9 (OpenSpec.ofChange Go.Proofs.YtbfbepnkofampaaGreatDoor.Rows.registerHeldSpec) false w args)
      (Go.Proofs.YtbfbepnkofampaaGreatDoor.Rows.registerHeldSpec.post enc Tryz.prog Tryz.f9 false true false false) := by
  refine handed_shaped (C := Tryz.checked) (X := fun w _ => laidMetH Tryz.prog listed w) (fun _ _ _ hh h => h.of_heap hh) own_knob started (by kernel_rfl) Tryz.func9
    (ChangeSpec.witness_shaped (enc := enc) (C := Tryz.checked) (os := os) (X := fun w _ => laidMetH Tryz.prog listed w) false (World.laidAll Tryz.prog os listed) #[.agg #[.slice none 0 0, .slice none 0 0, .slice none 0 0, .int .i64 0, .int .i64 0, .int .i64 0], .agg #[.int .i64 0, .slice none 0 0], .slice none 0 0] 8 (World.laidAll_os _ _ _)
      (World.shaped_of_ZipB (by kernel_rfl) (by kernel_rfl)) (by kernel_rfl) (by kernel_rfl) (by kernel_rfl) (by rw [MakeChecks.laidMetH_plain _ _ _ (by kernel_rfl)]; exact laidMet_laidAll _ (by kernel_rfl) (by kernel_rfl))) ?_
  intro W base args ds gs before hval0 hW hL hSh hZ
  have hval : ∀ (j : Nat) t v, Tryz.f9.params[j]? = some t → args[j]? = some v → Value.okWide Tryz.prog W .any base t v := hval0
  have hW' := hW
  obtain ⟨p, q, hA0, hV, rfl, _, _⟩ := hW
  have hA : DataW.TrodAll enc Tryz.prog W 0 (fun _ => true) true Tryz.f9.params.toList args.toList ds p := hA0
  rw [Tryz.params9] at hA hval
  obtain ⟨v0, v1, v2, d0, d1, d2, p0, p1, p2, rfl, rfl, rfl, h0, h1, h2⟩ := trodAll_three hA
  obtain ⟨rfl, rfl⟩ := trodVars_none hV
  have k0 := h0
  have k1 := h1
  have k2 := h2
  obtain ⟨x0, hx0⟩ := arg_rules (hval 0 28 v0 rfl rfl) h0
  obtain ⟨x1, hx1⟩ := arg_person (hval 1 31 v1 rfl rfl) h1
  obtain ⟨x2, hx2⟩ := arg_drives (hval 2 53 v2 rfl rfl) h2
  have lt0 : ∀ x ∈ p0, x.block < W.heap.size := fun x hx => hW'.lt x (by simp [hx])
  have lt1 : ∀ x ∈ p1, x.block < W.heap.size := fun x hx => hW'.lt x (by simp [hx])
  have lt2 : ∀ x ∈ p2, x.block < W.heap.size := fun x hx => hW'.lt x (by simp [hx])
  refine (LHeld x0 x1 _ _ _ x2 W hx0 hx1 hx2 ⟨env_of hL hSh⟩).mono fun e W' ⟨he, ⟨hb⟩⟩ => ?_
  subst he
  exact ⟨_, rfl, _, _, _, [], _, [], hW', trodAll_mk1 (shut_bool Tryz.underlying4 _), trodAll_mk3 (Below.trod laid_out (by kernel_rfl) (of_decide_eq_true (by kernel_rfl)) k0 hb lt0) (Below.trod laid_out (by kernel_rfl) (of_decide_eq_true (by kernel_rfl)) k1 hb lt1) (Below.trod laid_out (by kernel_rfl) (of_decide_eq_true (by kernel_rfl)) k2 hb lt2), rfl, hb.frame _, fun h => by cases h⟩
theorem holds9 : Go.Proofs.YtbfbepnkofampaaGreatDoor.Rows.RegisterHeldSaid :=
  OpenClaim.holds_of_wide 9 Tryz.f9 rfl rfl rfl rfl rfl rfl rfl ⟨rfl, rfl, rfl, rfl, rfl⟩ rfl rfl rfl rfl rfl (by kernel_rfl) Tryz.func9 closed9
    (of_decide_eq_true (by kernel_rfl)) (by unfold Func.isWrapper; first | (rw [if_pos (by decide +kernel)]; kernel_rfl) | (rw [if_neg (by decide +kernel)]; exact ⟨rfl, rfl⟩))
    (fun os started H enc _ => lifted9 os started H enc)
theorem registerHeld_holds : Go.Proofs.YtbfbepnkofampaaGreatDoor.Rows.RegisterHeldCardSaid :=
  Claim7.holds_tied_plain_at .later [] [.data, .data, .data, .data, .sentinel, .sentinel, .pinned] true (true, "4970e1223911c70aa7bcdc0bdc6bbce8f6a3c11b3c24a4250f4776a5114b5b9d") true
    holds9 (fun _ h => by cases h) wf9 (fun _ h => by cases h) Go.Proofs.YtbfbepnkofampaaGreatDoor.registerHeld_row_tie rfl ⟨rfl, rfl⟩ mainP rfl
    (fun f fn hf hfn => by
      obtain rfl : f = 9 := Option.some.inj (fm9.symm.trans hf) |>.symm
      obtain rfl : fn = Tryz.f9 := (Option.some.inj (Tryz.func9.symm.trans hfn)).symm
      exact ⟨looksP, fun j t ht => by
        rw [Tryz.params9] at ht
        have hm : t ∈ ([28, 31, 53] : List TypeId) := by simpa using Array.mem_of_getElem? ht
        have hall : (([28, 31, 53] : List TypeId).all fun u => !Tryz.prog.wantsStandIn u) = true := by kernel_rfl
        exact (show Tryz.prog.wantsStandIn t = false by simpa using List.all_eq_true.1 hall t hm)⟩)
    gs9
#print axioms registerHeld_holds
end Go.Proofs.YtbfbepnkofampaaGreatDoor
end
