/- Chapter 03: contracts of functions of the program and of the reference, and plain laws (out of SX1 SX2 SP7 SP8 SP9 SR16 SR17 SP10). No condition of its own. -/
import Derived.BigQuiet
import Derived.Deep.AppendLies
import Derived.Deep.Draws
import Derived.Deep.LoopGhost
import Derived.Deep.QuietTactic
import Derived.Deep.RegionHeld3
import Derived.Defers
import Derived.Laws.CopyOwn
import Derived.Laws.RangeAny
import Derived.Laws.StructEq
import Derived.Lib.AtoiAll
import Derived.Lib.Hide
import Derived.Lib.IndexAny
import Derived.Lib.IndexLaws
import Derived.Lib.ItoaMem
import Derived.Lib.OthersKept
import Derived.Lib.SliceRun
import Derived.Lib.Split
import Derived.Maps.AppendAt
import Derived.OrdersHeld
import Derived.OrdersIn
import Derived.RangeFuncLeaves
import Derived.RangeFuncNested
import Derived.Recover
import Derived.Shelf.Abstract
import Derived.Shelf.LaysC
import Derived.Shelf.LaysM
import Derived.Shelf.Small.Strs
import Derived.Shelf.Small.Utf8
import Derived.Shelf.Small.Wraps
import Derived.Shelf.Strconv.Atoi
import Derived.Shelf.Strconv.AtoiAll
import Derived.Shelf.Strconv.AtoiErrFast
import Derived.Shelf.Strconv.AtoiFail
import Derived.Shelf.Strconv.AtoiInnerAll
import Derived.Shelf.Strconv.AtoiLong
import Derived.Shelf.Strconv.Clone
import Derived.Shelf.Strconv.Itoa0
import Derived.Shelf.Strconv.Itoa1
import Derived.Shelf.Strconv.Itoa2
import Derived.Shelf.Strconv.Itoa3
import Derived.Shelf.Strconv.Lower
import Derived.Shelf.Strconv.ParseInt10
import Derived.Shelf.Strconv.ParseIntEmpty
import Derived.Shelf.Strconv.ParseUint10
import Derived.Shelf.Strconv.ParseUint10Any
import Derived.Shelf.Strconv.ParseUint10Empty
import Derived.Shelf.Strconv.RangeError
import Derived.Shelf.Strconv.SyntaxError
import Derived.Shelf.Strconv.ToError
import Derived.Shelf.Strconv.ToErrorRange
import Derived.Shelf.Strings.AsciiSet
import Derived.Shelf.Strings.Builder1
import Derived.Shelf.Strings.BuilderF
import Derived.Shelf.Strings.BuilderK
import Derived.Shelf.Strings.Cut
import Derived.Shelf.Strings.IndexAny
import Derived.Shelf.Strings.IndexAnyAll
import Derived.Shelf.Strings.Runes
import Derived.Shelf.Strings.Search1
import Derived.Shelf.Strings.Search2
import Derived.Shelf.Strings.Shaped
import Derived.TacticsIn
import Derived.Test.YtfjnacajjpaeiaaGreatDoorProg
import Derived.WalkKit
import Derived.WalkLawsBesides
import Derived.WalkMore
import Derived.WalkSpells
import Derived.Test.YtfjnacajjpaeiaaGreatDoorP01
import Derived.Test.YtfjnacajjpaeiaaGreatDoorP02
import Derived.Test.YtfjnacajjpaeiaaGreatDoorP03
import Derived.Test.YtfjnacajjpaeiaaGreatDoorP04
import Derived.Test.YtfjnacajjpaeiaaGreatDoorP05
import Derived.Test.YtfjnacajjpaeiaaGreatDoorP06
import Derived.Test.YtfjnacajjpaeiaaGreatDoorP07
set_option maxRecDepth 100000
set_option linter.unusedSimpArgs false
set_option linter.unusedVariables false
section
namespace Go.St
open Go Go.Bp Go.RowKit Go.Proofs
theorem ValidRune_any (r : Int) (w : World) : Calls Tryz.prog 129 #[.int .i32 r] w fun e w' => (e = .returned (.bool false) ∨ e = .returned (.bool true)) ∧ w' = w := by
 by_cases h1 : 0 ≤ r <;> by_cases h2 : r < 55296 <;> by_cases h3 : 57343 < r <;> by_cases h4 : r ≤ 1114111
 all_goals
  go_enter Tryz.func129, Tryz.ntmps129
  go_wp2
  go_ret
  exact ⟨by first | exact .inl rfl | exact .inr rfl, rfl⟩
set_option maxHeartbeats 2000000 in
theorem IndexRune_no (r : Int) (h1 : 128 ≤ r) (h2 : r ≤ 2147483647) (w : World) : Calls Tryz.prog 108 #[.string (S [45, 61]), .int .i32 r] w (RetI w (-1)) := by
 have q0 : (0 : Int) ≤ r := by omega
 have q1 : ¬ (r < 128) := by omega
 by_cases h3 : r = 65533
 ·subst h3
  go_enter Tryz.func108, Tryz.ntmps108
  go_wp2
  go_loopw [5, 6] (fun _ _ wr => ∃ k : Nat, k ≤ 2 ∧ wr = w.iter (S [45, 61]) k) (fun _ _ wr => 2 - wr.iterPos w.heap.size)
  case atStart => exact ⟨0, by omega, rfl⟩
  case round =>
   obtain ⟨k, hk, rfl⟩ := hrel
   have e : k = 0 ∨ k = 1 ∨ k = 2 := by omega
   rcases e with rfl | rfl | rfl
   ·have hx := run_next_ascii (P := Tryz.prog) w (S [45, 61]) 0 0 (by decide) (by decide)
    have hv : ((S [45, 61])[0]'(by decide)).toNat = 45 := by decide
    rw [hv] at hx
    go_wp2
    go_roundw
    case rel => exact ⟨1, by omega, rfl⟩
    case measure => simp
   ·have hx := run_next_ascii (P := Tryz.prog) w (S [45, 61]) 1 0 (by decide) (by decide)
    have hv : ((S [45, 61])[1]'(by decide)).toNat = 61 := by decide
    rw [hv] at hx
    go_wp2
    go_roundw
    case rel => exact ⟨2, by omega, rfl⟩
    case measure => simp
   ·have hx := run_next_end (P := Tryz.prog) w (S [45, 61]) 2 0 (by decide)
    go_wp2
    go_ret
    exact ⟨rfl, ext_iter _ _ _⟩
 ·have q3 : (r == 65533) = false := by simp [h3]
  obtain ⟨l, b, he, hb, hl1, hl2⟩ := encode_high h1
  have hsz : (Utf8.encode r).size = l.length + 1 := by rw [he, S_size]; simp
  obtain ⟨rs, hrs⟩ : ∃ rs, Utf8.encode r = rs := ⟨_, rfl⟩
  rw [hrs] at he hsz
  by_cases hl : l.length = 1
  ·have hz : rs.size = 2 := by omega
   obtain ⟨x, rfl⟩ : ∃ x, l = [x] := by
    match l, hl with
    | [x], _ => exact ⟨x, rfl⟩
   obtain rfl : rs = S [x, b] := he
   clear hsz hl hl1 hl2
   have hbn : ((61 : Int) == b.toNat) = false := by simp; omega
   go_enter Tryz.func108, Tryz.ntmps108
   go_wp2_with (first | (go_at_call 129; refine (ValidRune_any _ _).mono ?_; rintro e W ⟨(rfl | rfl), rfl⟩))
   ·go_ret
    exact ⟨rfl, Ext.refl _⟩
   ·apply wp_scope_straight
    go_wp2
    go_loopw [9] (fun i wr => i = .int .i64 1 ∧ wr = W) (fun _ _ => 0)
    case atStart => exact ⟨rfl, rfl⟩
    case round =>
     obtain ⟨rfl, rfl⟩ := hrel
     have hs2 : (S [45, 61]).size = 2 := by decide
     go_wp2
     apply wp_scope_straight
     go_wp2
     have hX : True := trivial
     refine wp_rt (.take 0 (.take 1 (.take 2 (.take 3 (.take 4 (.take 5 (.take 6 .nil))))))) (fun w' => True) ?_ (fun hHeld => ?_)
     ·exact True.intro
     repeat' first | ((with_reducible refine t_tk ?_); first | ((with_reducible refine t_tk (i := 2) ?_); refine tk (v := .int .u8 61) ?_ hHeld ?_; (· (intro wq _; go_simp; rfl)); (try simp only [pS])) | ((with_reducible refine t_tk (i := 5) ?_); refine tk (v := .int .u8 (b.toNat : Int)) ?_ hHeld ?_; (· (intro wq _; go_simp; rfl)); (try simp only [pS])) | (refine tk (v := ?_) ?_ hHeld ?_; rotate_left; (· (intro wq hSw; (try dsimp only at hSw); go_simp; (try with_reducible rfl))); (try simp only [pS]))) | (with_reducible refine t_done ?_)
     go_wp2
     have Hib := Lib.hid (show ∀ (c : Int) W, Calls Tryz.prog 128 #[.string (S []), .int .u8 c] W fun e w' => e = .returned (.int .i64 (-1)) ∧ w' = W from fun c W => Tryz.strings_IndexByte (S []) c W)
     have hX := Ext.todrew (Ext.refl wr.drew)
     refine wp_rt (.take 0 (.take 1 (.take 2 (.take 3 (.take 4 (.take 5 (.take 6 (.one 7 (.take 8 .nil))))))))) (fun w' => Ext wr.drew w') ?_ (fun hHeld => ?_)
     ·(first | exact True.intro | ((try dsimp only); (repeat' apply And.intro) <;> first | assumption | (refine Ext.cell_some (Ext.todrew (Ext.refl _)) ?_; assumption)))
     repeat' first | ((with_reducible refine t_tk ?_); first | ((with_reducible refine t_tk (i := 3) ?_); refine tk (v := .string (S [])) ?_ hHeld ?_; (· (intro wq _; go_simp; rfl)); (try simp only [pS])) | ((with_reducible refine t_tk (i := 6) ?_); refine tk (v := .int .u8 (b.toNat : Int)) ?_ hHeld ?_; (· (intro wq _; go_simp; rfl)); (try simp only [pS])) | (refine tk (v := ?_) ?_ hHeld ?_; rotate_left; (· (intro wq hSw; (try dsimp only at hSw); go_simp; (try with_reducible rfl))); (try simp only [pS]))) | ((with_reducible refine t_on ?_); refine t_one (by simp only [gS]; rfl) ?_) | ((with_reducible refine q_gd (d := some 41) ?_); ((refine q_call (by rfl) (Hib.out (b.toNat : Int) _) (by go_simp) ?_; rintro e W41 ⟨rfl, rfl⟩; refine ⟨_, rfl, ?_⟩))) | ((with_reducible refine q_nl ?_); clear hHeld; refine t_next ?_ (fun hHeld => ?_); (· (first | exact True.intro | ((try dsimp only); (repeat' apply And.intro) <;> first | assumption | (refine Ext.cell_some (Ext.todrew (Ext.refl _)) ?_; assumption)))); (try simp only [pS])) | (with_reducible refine t_done ?_)
     all_goals
      go_wp2
      simp only [go_sem]
      go_ret
      exact ⟨rfl, (Ext.todrew (Ext.refl wr)).trans hX⟩
  ·have hl3 : 2 ≤ l.length := by omega
   have z : ¬ ((l.length : Int) < 2) := by omega
   have hz1 : IntKind.i64.wrap ((rs.size : Int) - 1) = (l.length : Int) := by rw [hsz, wrapR (by omega) (by omega)]; omega
   clear he hl
   go_enter Tryz.func108, Tryz.ntmps108
   go_wp2_with (first | (go_at_call 129; refine (ValidRune_any _ _).mono ?_; rintro e W ⟨(rfl | rfl), rfl⟩))
   ·go_ret
    exact ⟨rfl, Ext.refl _⟩
   ·apply wp_scope_straight
    go_wp2
    go_loopw [9] (fun i wr => i = .int .i64 l.length ∧ wr = W) (fun _ _ => 0)
    case atStart => exact ⟨rfl, rfl⟩
    case round =>
     obtain ⟨rfl, rfl⟩ := hrel
     have hs2 : (S [45, 61]).size = 2 := by decide
     go_wp2
     simp only [go_sem]
     go_ret
     exact ⟨rfl, Ext.refl _⟩
theorem Ext.iterAt {W wr : World} (s : ByteArray) (p : Nat) (h : Ext W wr) : Ext W (wr.iterAt W.heap.size s p) := Lib.below_iterAt h (Nat.le_refl _) s p
theorem zv174 (w : World) : (zeroValue 174).run Tryz.prog w = .ok (.agg (Array.replicate 256 (.bool false))) w := by kernel_rfl
def cutIdx (l : List UInt8) : Int := Lib.indexAny l [45, 61]
set_option maxHeartbeats 2000000 in
theorem IndexAny_any (s : ByteArray) (hs : s.size ≤ 1000000) (w : World) : Calls Tryz.prog 82 #[.string s, .string (S [45, 61])] w (RetI w (cutIdx s.data.toList)) := by
 have hs2 : (S [45, 61]).size = 2 := by decide
 by_cases h8 : 8 < s.size
 ·refine (Tryz.strings_IndexAny_long zv174 s (S [45, 61]) w (by omega) h8 (by omega) (by omega) ?_).mono ?_
  ·intro j b hb
   have : b ∈ [(45 : UInt8), 61] := List.mem_of_getElem? hb
   simp at this
   rcases this with rfl | rfl <;> decide
  ·rintro e w' ⟨rfl, rfl⟩
   exact ⟨rfl, (Ext.ofAlloc _ _).trans (Ext.ofAlloc _ _)⟩
 ·have q8 : decide ((8 : Int) < s.size) = false := by simp; omega
  have hemp : (S [45, 61]).toList.isEmpty = false := by rw [Lib.toList_data]; rfl
  go_enter Tryz.func82, Tryz.ntmps82
  go_wp2_with (first | (go_at_call 109; refine (Tryz.strings_shouldUseASCIISet _ _).mono ?_; rintro e W ⟨rfl, rfl⟩; rw [q8]))
  go_loopw [9, 10] (fun _ _ wr => ∃ k : Nat, k ≤ s.size ∧ (Ext W wr ∧ wr.heap[W.heap.size]? = some (.stringIter s k)) ∧ Lib.NoAny s.data.toList [45, 61] k) (fun _ _ wr => s.size - wr.iterPos W.heap.size)
  case atStart => exact ⟨0, by omega, ⟨ext_iter _ _ _, World.iter_heap _ _ _⟩, Lib.NoAny.zero _ _⟩
  case round =>
   obtain ⟨k, hk, ⟨hE, hi0⟩, hn⟩ := hrel
   have hip : wr.iterPos W.heap.size = k := by simp [World.iterPos, hi0]
   have hE2 := Ext.iterAt s (k + 1) hE
   have hi2 := Lib.iterAt_heap wr W.heap.size s k (k + 1) hi0
   have Hn := Lib.hid hn
   clear hn
   by_cases hlt : k < s.size
   ·obtain ⟨b, hb⟩ : ∃ b, s[k] = b := ⟨_, rfl⟩
    have hbl : s.data.toList[k]? = some b := by rw [← hb]; exact Lib.data_getElem? s k hlt
    obtain ⟨hd1, hd2, hd3⟩ := decode_span s k hlt
    by_cases ha : b.toNat < 128
    ·have hx := Lib.run_next_ascii_at (P := Tryz.prog) wr W.heap.size s k 0 hi0 hlt (by rw [hb]; exact ha)
     rw [hb] at hx
     by_cases hc : isCut b = true
     ·have Hr := Lib.hid (show Lib.indexAny s.data.toList [45, 61] = k from Lib.indexAny_hit Hn.out hbl (by rw [cut_contains]; exact hc))
      have Hc := Lib.hid (show (0 : Int) ≤ Lib.indexByte (S [45, 61]).data.toList b by
       have := Lib.contains_iff_indexByte [45, 61] b
       rw [cut_contains, hc] at this
       exact (by simpa using this : (0 : Int) ≤ Lib.indexByte [45, 61] b))
      obtain ⟨m, hm⟩ : ∃ m, Lib.indexByte (S [45, 61]).data.toList b = m := ⟨_, rfl⟩
      have hm0 : 0 ≤ m := by rw [← hm]; exact Hc.out
      have Hm := Lib.hid hm
      clear hm hc hb hbl hd1 hd2 hd3
      have hi := Lib.hid (show ∀ W, Calls Tryz.prog 108 #[.string (S [45, 61]), .int .i32 (b.toNat : Int)] W (fun e w' => e = .returned (.int .i64 m) ∧ w' = W) from fun W => by
       have := Tryz.strings_IndexRune_ascii (S [45, 61]) (b.toNat : Int) W (by omega) (by omega)
       rw [show ((b.toNat : Int)).toNat.toUInt8 = b by simp, Hm.out] at this; exact this)
      go_wp2_with (first | (go_at_call 108; refine (hi.out _).mono ?_; rintro e W ⟨rfl, rfl⟩))
      go_ret
      exact ⟨by unfold cutIdx; rw [Hr.out]; rfl, hE2⟩
     ·simp only [Bool.not_eq_true] at hc
      have Hs := Lib.hid (Lib.NoAny.succ Hn.out hbl (by rw [cut_contains]; exact hc))
      have Hm := Lib.hid (show Lib.indexByte (S [45, 61]).data.toList b = -1 by
       have := Lib.contains_iff_indexByte [45, 61] b
       rw [cut_contains, hc] at this
       have h1 : Lib.indexByte [45, 61] b < 0 := by simpa using this.symm
       have h2 := Lib.indexByte_ge [45, 61] b
       show Lib.indexByte [45, 61] b = -1
       omega)
      clear hc hb hbl hd1 hd2 hd3
      have hi := Lib.hid (show ∀ W, Calls Tryz.prog 108 #[.string (S [45, 61]), .int .i32 (b.toNat : Int)] W (fun e w' => e = .returned (.int .i64 (-1)) ∧ w' = W) from fun W => by
       have := Tryz.strings_IndexRune_ascii (S [45, 61]) (b.toNat : Int) W (by omega) (by omega)
       rw [show ((b.toNat : Int)).toNat.toUInt8 = b by simp, Hm.out] at this; exact this)
      go_wp2_with (first | (go_at_call 108; refine (hi.out _).mono ?_; rintro e W ⟨rfl, rfl⟩))
      go_roundw
      case rel => exact ⟨k + 1, by omega, ⟨hE2, hi2⟩, Hs.out⟩
      case measure => rw [hip]; simp [World.iterPos, hi2]; omega
    ·have hx := Lib.run_next_any_at (P := Tryz.prog) wr W.heap.size s k 0 hi0 hlt
     have hE3 := Ext.iterAt s (k + (Utf8.decode s k).2) hE
     have hi3 := Lib.iterAt_heap wr W.heap.size s k (k + (Utf8.decode s k).2) hi0
     have hh := (decode_high s k hlt (by rw [hb]; omega)).1
     have hle := decode_le s k
     have Hs := Lib.hid (show Lib.NoAny s.data.toList [45, 61] (k + (Utf8.decode s k).2) from by
      intro j c hj hcj
      rw [cut_contains]
      by_cases h1 : j < k
      ·have := Hn.out j c h1 hcj
       rwa [cut_contains] at this
      ·have hjs : j < s.size := by omega
       have hc' : s[j] = c := by
        have := Lib.data_getElem? s j hjs
        rw [this] at hcj; exact Option.some.inj hcj
       by_cases h2 : j = k
       ·subst h2; rw [← hc', hb]; exact cut_high (by omega)
       ·rw [← hc']; exact cut_high (hd3 j hjs (by omega) hj))
     obtain ⟨r, hr⟩ : ∃ r, (Utf8.decode s k).1 = r := ⟨_, rfl⟩
     obtain ⟨dd, hd⟩ : ∃ d, (Utf8.decode s k).2 = d := ⟨_, rfl⟩
     rw [hr] at hx hh hle
     rw [hd] at hx hd1 hd2 Hs hE3 hi3
     clear hr hd hb hbl hd3
     go_wp2_with (first | (go_at_call 108; refine (IndexRune_no _ (by omega) (by omega) _).mono ?_; rintro e W' ⟨rfl, hE'⟩))
     have hi4 := hE'.heap_some hi3
     go_roundw
     case rel => exact ⟨k + dd, by omega, ⟨hE3.trans hE', hi4⟩, Hs.out⟩
     case measure => rw [hip]; simp [World.iterPos, hi4]; omega
   ·obtain rfl : k = s.size := by omega
    have hx := Lib.run_next_end_at (P := Tryz.prog) wr W.heap.size s s.size 0 hi0 (by omega)
    have Hr := Lib.hid (show Lib.indexAny s.data.toList [45, 61] = -1 from Lib.indexAny_none (by rw [← Lib.size_eq]; exact Hn.out))
    clear Hn
    go_wp2
    go_ret
    exact ⟨by unfold cutIdx; rw [Hr.out]; rfl, hE⟩
end Go.St
end
section
namespace Go.St
open Go Go.Bp Go.RowKit Go.Proofs
theorem ba_eq {x : ByteArray} {l : List UInt8} (h : x.data.toList = l) : x = S l := by rw [← h, S_data]
theorem slCut_any (s : ByteArray) (hs : s.size ≤ 1000000) (w : World) : Calls Tryz.prog 112 #[.string s, .string (S [46])] w fun e w' => Ext w w' ∧
  ((46 : UInt8) ∈ s.data.toList → e = .returned (.tuple #[.string (S (head46 s.data.toList)), .string (S (rest46 s.data.toList)), .bool true])) ∧
  ((46 : UInt8) ∉ s.data.toList → e = .returned (.tuple #[.string s, .string (S []), .bool false])) := by
 have hi := indexByte_46 s.data.toList
 have hS1 : (S [46]).size = 1 := by decide
 by_cases hm : (46 : UInt8) ∈ s.data.toList
 ·rw [if_pos hm] at hi
  have hl := head46_lt hm
  have hsz := Lib.size_eq s
  obtain ⟨h1, h2⟩ := head46_take hm
  obtain ⟨n, hn⟩ : ∃ n, (head46 s.data.toList).length = n := ⟨_, rfl⟩
  rw [hn] at hi hl h1 h2
  have he1 : s.extract 0 n = S (head46 s.data.toList) := ba_eq (by rw [ba_extract]; simpa using h1)
  have he2 : s.extract (n + 1) s.size = S (rest46 s.data.toList) := ba_eq (by rw [ba_extract, hsz, h2]; apply List.take_of_length_le; omega)
  obtain ⟨H, hH⟩ : ∃ H, S (head46 s.data.toList) = H := ⟨_, rfl⟩
  obtain ⟨R, hR⟩ : ∃ R, S (rest46 s.data.toList) = R := ⟨_, rfl⟩
  rw [hH] at he1; rw [hR] at he2
  have Hm := Lib.hid (And.intro hm (And.intro hH hR))
  have Hi := Lib.hid hi
  have hnb : n + 1 ≤ s.size := by omega
  obtain ⟨m, hm1⟩ : ∃ m, n + 1 = m := ⟨_, rfl⟩
  have wn : IntKind.i64.wrap ((n : Int) + 1) = (m : Int) := by rw [wrapR (by omega) (by omega)]; omega
  have hnm : n ≤ s.size := by omega
  rw [hm1] at he2 hnb
  clear hm1
  clear hm hH hR hi hl h1 h2 hn hsz
  go_enter Tryz.func112, Tryz.ntmps112
  go_wp2_with (first | (go_at_call 132; refine (Tryz.stringslite_Index_one s 46 _).mono ?_; rintro e W ⟨rfl, rfl⟩; rw [Hi.out]))
  have hX := Ext.todrew (Ext.refl W)
  refine wp_rt (.take 0 (.take 1 (.take 2 (.take 3 (.take 4 (.take 5 (.take 6 (.take 7 (.take 8 (.take 9 (.take 10 (.take 11 .nil)))))))))))) (fun w' => Ext W w') ?_ (fun hHeld => ?_)
  ·assumption
  repeat' first | ((with_reducible refine t_tk ?_); first | ((with_reducible refine t_tk (i := 2) ?_); refine tk (v := .string H) ?_ hHeld ?_; (· (intro wq _; go_simp; done)); (try simp only [pS])) | ((with_reducible refine t_tk (i := 7) ?_); refine tk (v := .int .i64 (m : Int)) ?_ hHeld ?_; (· (intro wq _; go_simp; done)); (try simp only [pS])) | ((with_reducible refine t_tk (i := 8) ?_); refine tk (v := .string R) ?_ hHeld ?_; (· (intro wq _; go_simp; done)); (try simp only [pS])) | (refine tk (v := ?_) ?_ hHeld ?_; rotate_left; (· (intro wq hSw; (try dsimp only at hSw); go_simp; (try with_reducible rfl))); (try simp only [pS]))) | (with_reducible refine t_done ?_)
  all_goals
   go_wp2
   go_ret3
   exact ⟨hX, fun _ => by rw [Hm.out.2.1, Hm.out.2.2]; rfl, fun h => absurd Hm.out.1 h⟩
 ·rw [if_neg hm] at hi
  have Hm := Lib.hid hm
  have Hi := Lib.hid hi
  clear hm hi
  go_enter Tryz.func112, Tryz.ntmps112
  go_wp2_with (first | (go_at_call 132; refine (Tryz.stringslite_Index_one s 46 _).mono ?_; rintro e W ⟨rfl, rfl⟩; rw [Hi.out]))
  go_ret3
  exact ⟨Ext.refl _, fun h => absurd h Hm.out, fun _ => rfl⟩
theorem Cut_any (s : ByteArray) (hs : s.size ≤ 1000000) (w : World) : Calls Tryz.prog 85 #[.string s, .string (S [46])] w fun e w' => Ext w w' ∧
  ((46 : UInt8) ∈ s.data.toList → e = .returned (.tuple #[.string (S (head46 s.data.toList)), .string (S (rest46 s.data.toList)), .bool true])) ∧
  ((46 : UInt8) ∉ s.data.toList → e = .returned (.tuple #[.string s, .string (S []), .bool false])) := by
 have h := fun W => slCut_any s hs W
 have Hc := Lib.hid h
 clear h
 by_cases hm : (46 : UInt8) ∈ s.data.toList
 ·have Hm := Lib.hid hm
  clear hm
  go_enter Tryz.func85, Tryz.ntmps85
  go_wp2_with (first | (go_at_call 112; refine (Hc.out _).mono ?_; rintro e W ⟨hE, h1, _⟩; obtain rfl := h1 Hm.out; clear h1))
  go_ret3
  exact ⟨hE, fun _ => rfl, fun h => absurd Hm.out h⟩
 ·have Hm := Lib.hid hm
  clear hm
  go_enter Tryz.func85, Tryz.ntmps85
  go_wp2_with (first | (go_at_call 112; refine (Hc.out _).mono ?_; rintro e W ⟨hE, _, h1⟩; obtain rfl := h1 Hm.out; clear h1))
  go_ret3
  exact ⟨hE, fun h => absurd h Hm.out, fun _ => rfl⟩
end Go.St
end
section
namespace Go.St
open Go Go.Bp Go.RowKit Go.Proofs
def RetSt (w : World) (l : List Step) (e : Ending) (w' : World) : Prop := ∃ v, e = .returned v ∧ OwnSt w.heap.size w' v l ∧ Ext w w'
set_option maxHeartbeats 2000000 in
theorem clone_any (lv : Value) (l : List Step) (w : World) (hl : Steps w lv l) (hle : l.length ≤ 1100) : Calls Tryz.prog 95 #[lv] w (RetSt w l) := by
 have hL := hl
 obtain ⟨A, c, rfl, h1, h2, h3, h4⟩ := hl
 unfold maxLen at h2
 clear h3
 have hE := Ext.refl w
 have hl1g : ([] : List Step).length + l.length ≤ 1000000000 := by simp; omega
 cases A with
 | none =>
  have h0 : l = [] := by
   cases l with
   | nil => rfl
   | cons x l => obtain ⟨ad, h, _⟩ := h4 (by simp); cases h
  subst h0
  clear h4
  have hn := Go.Lib.run_eql_slice_nil (P := Tryz.prog) w 32 82 none 0 c 0 0 Tryz.underlying32
  simp only [Option.isNone] at hn
  go_enter Tryz.func95, Tryz.ntmps95
  go_wp2
  all_goals
   go_ret
   exact ⟨_, rfl, OwnSt.nil _ _, hE⟩
 | some ad =>
  have hn := Go.Lib.run_eql_slice_nil (P := Tryz.prog) w 32 82 (some ad) l.length c 0 0 Tryz.underlying32
  simp only [Option.isNone] at hn
  go_enter Tryz.func95, Tryz.ntmps95
  go_wp2_with (first | (((with_reducible refine q_bs0St (d := some 5) ?_); intro W59 g59 hE59 hB59 hg59; have hO59 := OwnSt.of_blk0 hB59 (Nat.le_trans hE.size hg59); replace hE := hE.trans hE59; replace hL := hL.ext hE59)) | (((with_reducible refine q_appStSt2 (d := some 7) (xs := []) (ys := l) ?_ hO59 ?_ hL hl1g hE.size ?_); rfl; rfl; intro A61 c61 W61 hO61 hmono hgr; simp only [List.length_nil, Nat.zero_add, List.nil_append] at hO61 ⊢; replace hE := hmono _ hE)))
  go_ret
  exact ⟨_, rfl, hO61, hE⟩
end Go.St
end
section
namespace Go.St
open Go Go.Bp Go.RowKit Go.Proofs
def RetO (w : World) (x : Tour) (e : Ending) (w' : World) : Prop := ∃ v, e = .returned v ∧ TourO w.heap.size w' v x ∧ Ext w w'
theorem bits_or_ok : ((List.range 64).all fun a => (List.range 64).all fun b => decide (bits .or .i64 (a : Int) (b : Int) = unionI (a : Int) (b : Int))) = true := by decide +kernel
theorem bits_or {a b : Int} (h0 : 0 ≤ a) (h : a < 64) (h1 : 0 ≤ b) (h2 : b < 64) : bits .or .i64 a b = unionI a b := by
 obtain ⟨n, rfl⟩ : ∃ n : Nat, a = n := ⟨a.toNat, by omega⟩
 obtain ⟨m, rfl⟩ : ∃ m : Nat, b = m := ⟨b.toNat, by omega⟩
 have := List.all_eq_true.1 (List.all_eq_true.1 bits_or_ok n (List.mem_range.2 (by omega))) m (List.mem_range.2 (by omega))
 exact of_decide_eq_true this
theorem tour_ne {w : World} {g g' : Nat} {a b c d e a' b' c' d' e' f' h' : Value} (h1 : Blk w g 36 #[a, b, c, d, e]) (h2 : Blk w g' 87 #[a', b', c', d', e', f', h']) : g ≠ g' := by
 rintro rfl
 have h := h1.symm.trans h2
 simp at h
set_option maxHeartbeats 8000000 in
theorem ptour_any (tv lv : Value) (t : Town) (time : Int) (l : List Step) (w : World) (h : TownV w tv t) (hok : t.Ok) (c2 : inB time 0 (t.times.length - 1) = true) (hl : Steps w lv l) (hle : l.length ≤ 1100)
  (hv : ∀ x ∈ l, inB x.st 0 (t.streets.length - 1) = true) :
  Calls Tryz.prog 59 #[tv, .int .i64 time, lv] w (RetO w (t.tourOf time l)) := by
 obtain ⟨pv, shv, tmv, xv, rfl, hT⟩ := h
 obtain ⟨A1, cp1, rfl, _, hc1, _, _⟩ := hT.places
 obtain ⟨A2, cp2, rfl, _, hc2, _, _⟩ := hT.shows
 obtain ⟨A3, cp3, rfl, _, hc3, _, _⟩ := hT.times
 obtain ⟨A4, cp4, rfl, _, h42, h44⟩ := hT.streets
 have hL := hl
 obtain ⟨A, c, rfl, h1, h2, h3, h4⟩ := hl
 unfold maxLen at h2 h42 hc1 hc2 hc3
 clear h3
 have hE := Ext.refl w
 have hp2 := hok.p2; have hsh := hok.sh; have ht2 := hok.t2; have hst := hok.st
 have Hbd := Lib.hid (Town.to_bd hok hv)
 have Hsb := Lib.hid (Town.sh_bd hok c2 hv)
 have Hsa := Lib.hid (fun (j : Nat) (hj : j < l.length) => Town.shownAt_bd hok (hv _ (List.getElem_mem hj)) c2)
 have Hv := Lib.hid hv
 have hset := (Town.sets_bd hsh).2
 have htm := inB_t.1 c2
 obtain ⟨tm, rfl⟩ : ∃ n : Nat, time = n := ⟨time.toNat, by omega⟩
 clear hv
 go_enter Tryz.func59, Tryz.ntmps59
 go_wp2_with (first | ((with_reducible refine q_alloc (d := some 6) ti36 ?_); intro W6 g6 hE6 hB6 hg6; have hg60 := Nat.le_trans hE.size hg6; simp [Value.cells] at hB6; (try replace hE := hE.trans hE6); (try replace hL := hL.ext hE6); (try replace hB3 := hB3.ext hE6); (try replace hb3_3 := Ext.cell_some hE6 hb3_3); have hs6 := hE.size) | (go_at_call 95; ((with_reducible refine (clone_any _ l _ (by exact hL) hle).mono ?_); rintro e WcK ⟨vk, rfl, hO, hEcK⟩; (try replace hE := hE.trans hEcK); (try replace hB6 := hB6.ext hEcK); (try replace hB3 := hB3.ext hEcK); (try replace hb3_3 := Ext.cell_some hEcK hb3_3); obtain ⟨Ak, ck, e61, _⟩ := hO.steps ; subst e61 ; replace hO := hO.base hs6 ; have hOk := hO ; have hEk := hE ; have hB6k := hB6 ; have hB3k := hB3 ; have hXk := Ext.refl WcK)) | ((with_reducible refine q_newvar (e := 36) (u := 7) (v := .agg #[.slice Ak l.length ck, .int .i64 0, .int .i64 0, .int .i64 0, .int .i64 0]) ti36 ?_ ?_ ?_ ?_ ?_ ?_); (intro g; rfl); (intro g; rfl); rfl; rfl; (simp [Value.cells, Value.oneCell']); intro W7 g7 hE7 hB7 hg7; simp [Value.cells] at hB7; (try replace hXk := hXk.trans hE7); (try replace hb3_3 := Ext.cell_some hE7 hb3_3); have hb7_0 := hB7.cell 0; have hb7_1 := hB7.cell 1; have hb7_2 := hB7.cell 2; have hb7_3 := hB7.cell 3; have hb7_4 := hB7.cell 4; simp at hb7_0 hb7_1 hb7_2 hb7_3 hb7_4; clear hE7) | ((with_reducible refine q_box (d := some 3) ?_); intro W3 g3 hE3 hB3 hg3; simp [Act.eval, Act.put, Value.cells] at hB3; (try replace hE := hE.trans hE3); (try replace hL := hL.ext hE3); have hb3_3 := hB3.cell 3; simp at hb3_3; clear hE3))
 clear hb7_0 hb7_1 hb7_2 hb7_3 hb7_4 hE hT hL hO hB6 hB3
 go_loopw [16] (fun i wr => Ext WcK wr ∧ ∃ k : Nat, k ≤ l.length ∧ i = .int .i64 k ∧ Blk wr g7 36 #[.slice Ak l.length ck, .int .i64 (t.mTo l k), .int .i64 (t.loTo l k), .int .i64 (t.hiTo l k), .int .i64 (t.shTo tm l k)]) (fun i _ => l.length - (intOf i).toNat)
 case atStart => exact ⟨hXk, 0, by omega, rfl, hB7⟩
 case round =>
  obtain ⟨hX, k, hk, rfl, hBr⟩ := hrel
  clear hB7 hXk
  have hEq := Ext.trans hEk hX
  have hB3r := hB3k.ext hX
  have b3 := hB3r.cell 3
  simp at b3
  obtain ⟨⟨bm0, bm1⟩, ⟨bl0, bl1⟩, ⟨bh0, bh1⟩⟩ := Hbd.out k hk
  obtain ⟨bs0, bs1⟩ := Hsb.out k hk
  by_cases hlt : k < l.length
  ·obtain ⟨ad, rfl, hc⟩ := h4 (by omega)
   obtain ⟨⟨st, bk⟩, hx⟩ : ∃ x, l[k] = x := ⟨_, rfl⟩
   have Hx := Lib.hid hx
   have hStep := ld_step (hc.ext hEq) hlt
   have hin := Hv.out _ (List.getElem_mem hlt)
   have hsa := Hsa.out k hlt
   have Hm1 := Lib.hid (Town.mTo_succ (t := t) hlt); have Hl1 := Lib.hid (Town.loTo_succ (t := t) hlt); have Hh1 := Lib.hid (Town.hiTo_succ (t := t) hlt); have Hs1 := Lib.hid (Town.shTo_succ (t := t) (time := (tm : Int)) hlt)
   rw [hx] at hStep hin hsa Hm1 Hl1 Hh1 Hs1
   obtain ⟨n, rfl, hn⟩ := nat_in hin
   have hnlt : n < t.streets.length := by omega
   obtain ⟨ad4, rfl, hc4⟩ := h44 (by omega)
   obtain ⟨sv, hs⟩ := hc4 n hnlt
   have hso := hok.at_ hnlt
   have hsm := inB_t.1 hso.m; have hslo := inB_t.1 hso.lo; have hshi := inB_t.1 hso.hi
   have hsl := hso.sh
   rw [Town.at_eq hnlt] at Hm1 Hl1 Hh1
   have hsx : t.shownAt (tm : Int) ⟨(n : Int), bk⟩ = t.streets[n].shows.getD tm 0 := by unfold Town.shownAt; rw [Town.at_eq hnlt]; simp
   rw [hsx] at hsa Hs1
   obtain ⟨s, hst'⟩ : ∃ s, t.streets[n] = s := ⟨_, rfl⟩
   rw [hst'] at hs hsm hslo hshi hsl hsa Hm1 Hl1 Hh1 Hs1
   clear hx hc hc4 hst' hso hsx
   have hsq := hs.ext hEq
   obtain ⟨hs1, Ai, ci, rfl, i1, i2, i3, i4⟩ := hs
   obtain ⟨adI, rfl, hcI⟩ := i4 (by omega)
   have html : tm < s.shows.length := by omega
   have e7w := hcI.i html
   have hsg : s.shows.getD tm 0 = s.shows[tm] := by simp [List.getD, html]
   rw [hsg] at hsa Hs1
   unfold maxLen at i2
   obtain ⟨x, hxx⟩ : ∃ x, s.shows[tm] = x := ⟨_, rfl⟩
   rw [hxx] at e7w hsa Hs1
   obtain ⟨m, hm⟩ : ∃ m, t.mTo l k = m := ⟨_, rfl⟩
   obtain ⟨lo, hlo⟩ : ∃ m, t.loTo l k = m := ⟨_, rfl⟩
   obtain ⟨hi, hhi⟩ : ∃ m, t.hiTo l k = m := ⟨_, rfl⟩
   obtain ⟨sh, hsh'⟩ : ∃ m, t.shTo (tm : Int) l k = m := ⟨_, rfl⟩
   rw [hm] at bm0 bm1 hBr Hm1; rw [hlo] at bl0 bl1 hBr Hl1; rw [hhi] at bh0 bh1 hBr Hh1; rw [hsh'] at bs0 bs1 hBr Hs1
   clear hsl hm hlo hhi hsh' i1 i3 i4 hcI hs1 h4 h44 hsg hxx hin
   have hlt7 := hBr.lt
   have hE := Ext.refl wr
   have p1 := hBr.cell 1
   simp at p1
   have z1 : (k : Int) < (l.length : Int) := by omega
   have z2 : (n : Int) < (t.streets.length : Int) := by omega
   go_wp2_with (first | (((with_reducible refine q_load (d := some 19) (hl := hStep) ?_ ?_); rfl)) | ((with_reducible refine q_newvar (e := 82) (u := 9) (v := .agg #[.int .i64 (n : Int), .bool bk]) ti82 ?_ ?_ ?_ ?_ ?_ ?_); (intro g; rfl); (intro g; rfl); rfl; rfl; (simp [Value.cells, Value.oneCell']); intro W9 g9 hE9 hB9 hg9; simp [Value.cells] at hB9; (try replace hX := hX.trans hE9); (try replace hBr := hBr.ext hE9); (try replace hsq := hsq.ext hE9); (try replace b3 := Ext.cell_some hE9 b3); (try replace p1 := Ext.cell_some hE9 p1); have hb9_0 := hB9.cell 0; simp at hb9_0; clear hE9) | (((with_reducible refine q_load (d := some 26) (hl := ld_street hsq) ?_ ?_); rfl)) | ((with_reducible refine q_newvar (e := 87) (u := 10) (v := .agg #[.int .i64 s.a, .int .i64 s.b, .int .i64 s.metres, .int .i64 s.lo, .int .i64 s.hi, .bool s.both, .slice (some adI) s.shows.length ci]) ti87 ?_ ?_ ?_ ?_ ?_ ?_); (intro g; rfl); (intro g; rfl); rfl; rfl; (simp [Value.cells, Value.oneCell']); intro W10 g10 hE10 hB10 hg10; simp [Value.cells] at hB10; (try replace hX := hX.trans hE10); (try replace hBr := hBr.ext hE10); (try replace p1 := Ext.cell_some hE10 p1); have hb10_2 := hB10.cell 2; simp at hb10_2; clear hE10) | (((with_reducible refine q_store1 (t := 3) (e := 36) (g := g7) (off := 1) (v := .int .i64 (m + s.metres)) ?_ ?_ hBr sizeI ?_ ?_ ?_ ?_); rfl; rfl; rfl; simp; rfl; intro Wa hBa hgra; simp at hBa; have n710 : g7 ≠ g10 := tour_ne hBr hB10; have hSa := hB10.grown hgra (fun e => n710 (Option.some.inj e).symm); have hXa := below_grown hX hgra hg7 hX.size; have p2 := hBa.cell 2; have r3 := hSa.cell 3; simp at p2 r3)) | (((with_reducible refine q_store1 (t := 3) (e := 36) (g := g7) (off := 2) (v := .int .i64 (lo + s.lo)) ?_ ?_ hBa sizeI ?_ ?_ ?_ ?_); rfl; rfl; rfl; simp; rfl; intro Wb hBb hgrb; simp at hBb; have hSb := hSa.grown hgrb (fun e => n710 (Option.some.inj e).symm); have hXb := below_grown hXa hgrb hg7 hXa.size; have p3 := hBb.cell 3; have r4 := hSb.cell 4; simp at p3 r4)) | (((with_reducible refine q_store1 (t := 3) (e := 36) (g := g7) (off := 3) (v := .int .i64 (hi + s.hi)) ?_ ?_ hBb sizeI ?_ ?_ ?_ ?_); rfl; rfl; rfl; simp; rfl; intro Wc hBc hgrc; simp at hBc; have hSc := hSb.grown hgrc (fun e => n710 (Option.some.inj e).symm); have hXc := below_grown hXb hgrc hg7 hXb.size)))
   have r6 := hSc.cell 6
   simp at r6
   have e8 : Wc.cell? (adI.add tm) = some (.int .i64 x) := Ext.cell_some (Ext.trans hEk hXc) e7w
   have hBcd := hBc.d
   refine wp_rt (.take 0 (.take 2 (.take 3 (.take 4 (.take 5 (.take 6 (.one 1 (.take 7 (.take 8 (.one 9 .nil)))))))))) (fun w' => w'.cell? ⟨g10, 6, none⟩ = some (.slice (some adI) s.shows.length ci) ∧ w'.cell? (adI.add tm) = some (.int .i64 x)) ?_ (fun hHeld => ?_)
   ·(first | exact True.intro | ((try dsimp only); (repeat' apply And.intro) <;> first | assumption | (refine Ext.cell_some (Ext.todrew (Ext.refl _)) ?_; assumption)))
   repeat' first | ((with_reducible refine t_tk ?_); first | ((with_reducible refine t_tk (i := 7) ?_); refine tk (v := .int .i64 (unionI sh x)) ?_ hHeld ?_; (· (intro wq hSw; go_simp; exact bits_or bs0 (by omega) hsa.1 (by omega))); (try simp only [pS])) | (refine tk (v := ?_) ?_ hHeld ?_; rotate_left; (· (intro wq hSw; (try dsimp only at hSw); go_simp; (try with_reducible rfl))); (try simp only [pS]))) | ((with_reducible refine t_on ?_); refine t_one (by simp only [gS]; rfl) ?_) | ((with_reducible refine q_gd (d := some 52) ?_); (((with_reducible refine q_load (d := some 52) (p := ⟨g7, 4, none⟩) (v := .int .i64 sh) ?_ ?_ ?_); rfl; exact load_one Tryz.underlying3 rfl (by simpa using hBcd.cell 4)))) | ((with_reducible refine q_gd (d := none) ?_); (((with_reducible refine q_store1 (t := 3) (e := 36) (g := g7) (off := 4) (v := .int .i64 (unionI sh x)) ?_ ?_ hBcd sizeI ?_ ?_ ?_ ?_); rfl; rfl; rfl; simp; rfl; intro Wd hBd hgrd; simp at hBd; have hXd := below_grown (Ext.todrew hXc) hgrd hg7 (Ext.todrew hXc).size; have r6d := (Blk.cell (hSc.d.grown hgrd (fun e => n710 (Option.some.inj e).symm)) 6); simp at r6d; have e8d : Wd.cell? (adI.add tm) = some (.int .i64 x) := Ext.cell_some (Ext.trans hEk hXd) e7w))) | ((with_reducible refine q_nl ?_); clear hHeld; refine t_next ?_ (fun hHeld => ?_); (· (first | exact True.intro | ((try dsimp only); (repeat' apply And.intro) <;> first | assumption | (refine Ext.cell_some (Ext.todrew (Ext.refl _)) ?_; assumption)))); (try simp only [pS])) | (with_reducible refine t_done ?_)
   go_wp2
   go_roundw
   case rel => exact ⟨hXd, k + 1, by omega, by go_num, by rw [Hm1.out, Hl1.out, Hh1.out, Hs1.out]; exact hBd⟩
   case measure => simp [intOf]; omega
  ·obtain rfl : k = l.length := by omega
   have hB6r := hB6k.ext hX
   have n76 : g7 ≠ g6 := by have := hB6k.lt; omega
   go_wp2_with (first | ((with_reducible refine q_load (d := some 61) (hl := ld_tourB hBr) ?_ ?_); rfl) | ((with_reducible refine q_store (t := 36) (e := 36) (g := g6) (off := 0) (n := 5) (v := .agg #[.slice Ak l.length ck, .int .i64 (t.mTo l l.length), .int .i64 (t.loTo l l.length), .int .i64 (t.hiTo l l.length), .int .i64 (t.shTo tm l l.length)]) ?_ ?_ hB6r sizeTour ?_ ?_ ?_ ?_); rfl; rfl; rfl; (simp [Value.cells]); (exact one5 rfl); intro Ws hBs hgrs; simp [putAt, Value.cells] at hBs))
   have hOs := own_grown (OwnSt.ext hOk hX) hgrs (own_ne (OwnSt.ext hOk hX) hB6r (.inl (by decide)))
   have hEs := below_grown hEq hgrs hg60 hEq.size
   refine ret_c1 rfl rfl rfl (ld_tourB hBs) ?_
   exact ⟨_, rfl, ⟨_, by rw [Town.tourOf_to], hOs⟩, hEs⟩
end Go.St
end
section
namespace Go.St
open Go Go.Bp Go.RowKit Go.Proofs
set_option maxHeartbeats 8000000 in
theorem PDrive_any (tv lv : Value) (t : Town) (a time : Int) (l : List Step) (w : World) (h : TownV w tv t) (hl : Steps w lv l) :
  Calls Tryz.prog 20 #[tv, .int .i64 a, .int .i64 time, lv] w (RetOII w (t.driveAns a time l).1 (t.driveAns a time l).2.1 (t.driveAns a time l).2.2) := by
 have hT0 := h
 obtain ⟨pv, shv, tmv, xv, rfl, hT⟩ := h
 obtain ⟨A1, cp1, rfl, _, hc1, _, _⟩ := hT.places
 obtain ⟨A2, cp2, rfl, _, hc2, _, _⟩ := hT.shows
 obtain ⟨A3, cp3, rfl, _, hc3, _, _⟩ := hT.times
 obtain ⟨A4, cp4, rfl, _, h42, _⟩ := hT.streets
 have hL := hl
 clear hT hl
 unfold maxLen at h42 hc1 hc2 hc3
 have hE := Ext.refl w
 by_cases hce : t.check.2.2 = 0
 ·have Hce := Lib.hid hce
  have hok := Town.ok_of hce
  have hp2 := hok.p2; have hsh := hok.sh; have ht2 := hok.t2; have hst := hok.st
  cases c1 : inB a 0 (t.places.length - 1) with
  | false =>
   have Hoe := Lib.hid (show t.openErr [a] = 4 by unfold Town.openErr; rw [if_neg (by simp [hce]), outB_1, c1]; rfl)
   clear hce
   rw [Town.driveAns_4 Hce.out (.inl c1)]
   go_enter Tryz.func20, Tryz.ntmps20
   go_wp2_with (first | ((with_reducible refine q_alloc (d := some 8) ti36 ?_); intro W8 g8 hE8 hB8 hg8; have hg80 := Nat.le_trans hE.size hg8; simp [Value.cells] at hB8; (try replace hE := hE.trans hE8); (try replace hT0 := hT0.ext hE8); (try replace hL := hL.ext hE8); (try replace hB4 := hB4.ext hE8)) | (((with_reducible refine q_load (d := some 13) (hl := ld_townB hB4) ?_ ?_); rfl)) | ((with_reducible refine q_bl1 (d := some 15) (n0 := a) ?_ ?_); rfl; intro W15 g15 hE15 hB15 hg15; (try replace hE := hE.trans hE15); (try replace hT0 := hT0.ext hE15); (try replace hL := hL.ext hE15); (try replace hB8 := hB8.ext hE15); have hI15 : Ints W15 (.slice (some ⟨g15, 0, none⟩) 1 1) [a] := ints_blk1 hB15; clear hB15 hg15 hE15) | (go_at_call 57; ((with_reducible refine (popen_any _ _ t [a] _ (by exact hT0) (by exact hI15)).mono ?_); rintro e WcP ⟨rfl, hEcP⟩; (try replace hE := hE.trans hEcP); (try replace hT0 := hT0.ext hEcP); (try replace hL := hL.ext hEcP); (try replace hB8 := hB8.ext hEcP); rw [Hoe.out])) | ((with_reducible refine q_newvar (e := 90) (u := 11) (v := .agg #[.slice A1 t.places.length cp1, .slice A2 t.shows.length cp2, .slice A3 t.times.length cp3, .slice A4 t.streets.length cp4]) ti90 ?_ ?_ ?_ ?_ ?_ ?_); (intro g; rfl); (intro g; rfl); rfl; rfl; (simp [Value.cells, Value.oneCell']); intro W11 g11 hE11 hB11 hg11; simp [Value.cells] at hB11; (try replace hE := hE.trans hE11); (try replace hT0 := hT0.ext hE11); (try replace hL := hL.ext hE11); (try replace hB8 := hB8.ext hE11); have hb11_2 := hB11.cell 2; simp at hb11_2; clear hE11) | (((with_reducible refine q_load (d := some 22) (hl := ld_tourB hB8) ?_ ?_); rfl)) | (((with_reducible refine q_store (t := 36) (e := 36) (g := g8) (off := 0) (n := 5) (v := .agg #[.slice none 0 0, .int .i64 0, .int .i64 0, .int .i64 0, .int .i64 0]) ?_ ?_ hB8 sizeTour ?_ ?_ ?_ ?_); rfl; rfl; rfl; (simp [Value.cells]); (exact one5 rfl); intro Ws hBs hgrs; simp [putAt, Value.cells] at hBs; replace hE := below_grown2 hE hgrs hg80)) | ((with_reducible refine q_box (d := some 4) ?_); intro W4 g4 hE4 hB4 hg4; simp [Act.eval, Act.put, Value.cells] at hB4; (try replace hE := hE.trans hE4); (try replace hT0 := hT0.ext hE4); (try replace hL := hL.ext hE4); clear hE4))
   refine ret_ctt rfl rfl rfl (ld_tourB hBs) ?_
   exact ⟨_, rfl, ⟨_, rfl, OwnSt.nil _ _⟩, hE⟩
  | true =>
   have Hoe := Lib.hid (show t.openErr [a] = 0 by unfold Town.openErr; rw [if_neg (by simp [hce]), outB_1, c1]; rfl)
   clear hce
   cases c2 : inB time 0 (t.times.length - 1) with
   | false =>
    have m2 : outB 0 ((t.times.length : Int) - 1) [time] = true := by rw [outB_1, c2]; rfl
    rw [Town.driveAns_4 Hce.out (.inr c2)]
    go_enter Tryz.func20, Tryz.ntmps20
    go_wp2_with (first | ((with_reducible refine q_alloc (d := some 8) ti36 ?_); intro W8 g8 hE8 hB8 hg8; have hg80 := Nat.le_trans hE.size hg8; simp [Value.cells] at hB8; (try replace hE := hE.trans hE8); (try replace hT0 := hT0.ext hE8); (try replace hL := hL.ext hE8); (try replace hB4 := hB4.ext hE8)) | (((with_reducible refine q_load (d := some 13) (hl := ld_townB hB4) ?_ ?_); rfl)) | ((with_reducible refine q_bl1 (d := some 15) (n0 := a) ?_ ?_); rfl; intro W15 g15 hE15 hB15 hg15; (try replace hE := hE.trans hE15); (try replace hT0 := hT0.ext hE15); (try replace hL := hL.ext hE15); (try replace hB8 := hB8.ext hE15); have hI15 : Ints W15 (.slice (some ⟨g15, 0, none⟩) 1 1) [a] := ints_blk1 hB15; clear hB15 hg15 hE15) | (go_at_call 57; ((with_reducible refine (popen_any _ _ t [a] _ (by exact hT0) (by exact hI15)).mono ?_); rintro e WcP ⟨rfl, hEcP⟩; (try replace hE := hE.trans hEcP); (try replace hT0 := hT0.ext hEcP); (try replace hL := hL.ext hEcP); (try replace hB8 := hB8.ext hEcP); rw [Hoe.out])) | ((with_reducible refine q_newvar (e := 90) (u := 11) (v := .agg #[.slice A1 t.places.length cp1, .slice A2 t.shows.length cp2, .slice A3 t.times.length cp3, .slice A4 t.streets.length cp4]) ti90 ?_ ?_ ?_ ?_ ?_ ?_); (intro g; rfl); (intro g; rfl); rfl; rfl; (simp [Value.cells, Value.oneCell']); intro W11 g11 hE11 hB11 hg11; simp [Value.cells] at hB11; (try replace hE := hE.trans hE11); (try replace hT0 := hT0.ext hE11); (try replace hL := hL.ext hE11); (try replace hB8 := hB8.ext hE11); have hb11_2 := hB11.cell 2; simp at hb11_2; clear hE11) | ((with_reducible refine q_bl1 (d := some 31) (n0 := time) ?_ ?_); rfl; intro W31 g31 hE31 hB31 hg31; (try replace hE := hE.trans hE31); (try replace hT0 := hT0.ext hE31); (try replace hL := hL.ext hE31); (try replace hB8 := hB8.ext hE31); (try replace hB11 := hB11.ext hE31); have hI31 : Ints W31 (.slice (some ⟨g31, 0, none⟩) 1 1) [time] := ints_blk1 hB31; clear hB31 hg31 hE31) | (go_at_call 46; ((with_reducible refine ((pout_v (by exact hI31) m2)).mono ?_); rintro e WcO ⟨rfl, hEcO⟩; (try replace hE := hE.trans hEcO); (try replace hT0 := hT0.ext hEcO); (try replace hL := hL.ext hEcO); (try replace hB8 := hB8.ext hEcO); (try replace hB11 := hB11.ext hEcO))) | (((with_reducible refine q_load (d := some 33) (hl := ld_tourB hB8) ?_ ?_); rfl)) | (((with_reducible refine q_store (t := 36) (e := 36) (g := g8) (off := 0) (n := 5) (v := .agg #[.slice none 0 0, .int .i64 0, .int .i64 0, .int .i64 0, .int .i64 0]) ?_ ?_ hB8 sizeTour ?_ ?_ ?_ ?_); rfl; rfl; rfl; (simp [Value.cells]); (exact one5 rfl); intro Ws hBs hgrs; simp [putAt, Value.cells] at hBs; replace hE := below_grown2 hE hgrs hg80)) | ((with_reducible refine q_box (d := some 4) ?_); intro W4 g4 hE4 hB4 hg4; simp [Act.eval, Act.put, Value.cells] at hB4; (try replace hE := hE.trans hE4); (try replace hT0 := hT0.ext hE4); (try replace hL := hL.ext hE4); clear hE4))
    refine ret_ctt rfl rfl rfl (ld_tourB hBs) ?_
    exact ⟨_, rfl, ⟨_, rfl, OwnSt.nil _ _⟩, hE⟩
   | true =>
    have m2 : outB 0 ((t.times.length : Int) - 1) [time] = false := by rw [outB_1, c2]; rfl
    by_cases hse : (t.stepsErr a l).2 = 0
    ·rw [Town.driveAns_0 Hce.out c1 c2 hse]
     obtain ⟨hl11, hfo⟩ := Town.stepsErr_follow hse
     have hv := Town.follow_st l a hfo
     have Hse := Lib.hid hse
     clear hfo hse
     go_enter Tryz.func20, Tryz.ntmps20
     go_wp2_with (first | ((with_reducible refine q_alloc (d := some 8) ti36 ?_); intro W8 g8 hE8 hB8 hg8; have hg80 := Nat.le_trans hE.size hg8; simp [Value.cells] at hB8; (try replace hE := hE.trans hE8); (try replace hT0 := hT0.ext hE8); (try replace hL := hL.ext hE8); (try replace hB4 := hB4.ext hE8)) | (((with_reducible refine q_load (d := some 13) (hl := ld_townB hB4) ?_ ?_); rfl)) | ((with_reducible refine q_bl1 (d := some 15) (n0 := a) ?_ ?_); rfl; intro W15 g15 hE15 hB15 hg15; (try replace hE := hE.trans hE15); (try replace hT0 := hT0.ext hE15); (try replace hL := hL.ext hE15); (try replace hB8 := hB8.ext hE15); have hI15 : Ints W15 (.slice (some ⟨g15, 0, none⟩) 1 1) [a] := ints_blk1 hB15; clear hB15 hg15 hE15) | (go_at_call 57; ((with_reducible refine (popen_any _ _ t [a] _ (by exact hT0) (by exact hI15)).mono ?_); rintro e WcP ⟨rfl, hEcP⟩; (try replace hE := hE.trans hEcP); (try replace hT0 := hT0.ext hEcP); (try replace hL := hL.ext hEcP); (try replace hB8 := hB8.ext hEcP); rw [Hoe.out])) | ((with_reducible refine q_newvar (e := 90) (u := 11) (v := .agg #[.slice A1 t.places.length cp1, .slice A2 t.shows.length cp2, .slice A3 t.times.length cp3, .slice A4 t.streets.length cp4]) ti90 ?_ ?_ ?_ ?_ ?_ ?_); (intro g; rfl); (intro g; rfl); rfl; rfl; (simp [Value.cells, Value.oneCell']); intro W11 g11 hE11 hB11 hg11; simp [Value.cells] at hB11; (try replace hE := hE.trans hE11); (try replace hT0 := hT0.ext hE11); (try replace hL := hL.ext hE11); (try replace hB8 := hB8.ext hE11); have hb11_2 := hB11.cell 2; simp at hb11_2; clear hE11) | ((with_reducible refine q_bl1 (d := some 31) (n0 := time) ?_ ?_); rfl; intro W31 g31 hE31 hB31 hg31; (try replace hE := hE.trans hE31); (try replace hT0 := hT0.ext hE31); (try replace hL := hL.ext hE31); (try replace hB8 := hB8.ext hE31); (try replace hB11 := hB11.ext hE31); have hI31 : Ints W31 (.slice (some ⟨g31, 0, none⟩) 1 1) [time] := ints_blk1 hB31; clear hB31 hg31 hE31) | (go_at_call 46; ((with_reducible refine ((pout_v (by exact hI31) m2)).mono ?_); rintro e WcO ⟨rfl, hEcO⟩; (try replace hE := hE.trans hEcO); (try replace hT0 := hT0.ext hEcO); (try replace hL := hL.ext hEcO); (try replace hB8 := hB8.ext hEcO); (try replace hB11 := hB11.ext hEcO))) | (((with_reducible refine q_load (d := some 35) (hl := ld_ptownB hB11) ?_ ?_); rfl)) | (go_at_call 58; ((with_reducible refine (pfollow_any _ _ t a l _ (by exact hT0) hok (by exact hL)).mono ?_); rintro e WcF ⟨rfl, hEcF⟩; (try replace hE := hE.trans hEcF); (try replace hT0 := hT0.ext hEcF); (try replace hL := hL.ext hEcF); (try replace hB8 := hB8.ext hEcF); (try replace hB11 := hB11.ext hEcF); rw [Hse.out] ; have hsF := hE.size)) | (((with_reducible refine q_load (d := some 45) (hl := ld_ptownB hB11) ?_ ?_); rfl)) | (go_at_call 59; ((with_reducible refine (ptour_any _ _ t time l _ (by exact hT0) hok c2 (by exact hL) hl11 hv).mono ?_); rintro e WcT ⟨vt, rfl, hTo, hEcT⟩; (try replace hE := hE.trans hEcT); (try replace hB8 := hB8.ext hEcT); obtain ⟨sv, rfl, hO⟩ := hTo ; replace hO := hO.base hsF ; obtain ⟨Ak, ck, e61, _⟩ := hO.steps ; subst e61)) | (((with_reducible refine q_store (t := 36) (e := 36) (g := g8) (off := 0) (n := 5) (v := .agg #[.slice Ak (t.tourOf time l).steps.length ck, .int .i64 (t.tourOf time l).metres, .int .i64 (t.tourOf time l).lo, .int .i64 (t.tourOf time l).hi, .int .i64 (t.tourOf time l).shown]) ?_ ?_ hB8 sizeTour ?_ ?_ ?_ ?_); rfl; rfl; rfl; (simp [Value.cells]); (exact one5 rfl); intro Ws hBs hgrs; simp [putAt, Value.cells] at hBs)) | ((with_reducible refine q_box (d := some 4) ?_); intro W4 g4 hE4 hB4 hg4; simp [Act.eval, Act.put, Value.cells] at hB4; (try replace hE := hE.trans hE4); (try replace hT0 := hT0.ext hE4); (try replace hL := hL.ext hE4); clear hE4))
     have hOs := own_grown hO hgrs (own_ne hO hB8 (.inl (by decide)))
     have hEs := below_grown2 hE hgrs hg80
     refine ret_ctt rfl rfl rfl (ld_tourB hBs) ?_
     exact ⟨_, rfl, ⟨_, rfl, hOs⟩, hEs⟩
    ·have q1 : ((t.stepsErr a l).2 != 0) = true := by simp [hse]
     rw [Town.driveAns_s Hce.out c1 c2 hse]
     clear hse
     go_enter Tryz.func20, Tryz.ntmps20
     go_wp2_with (first | ((with_reducible refine q_alloc (d := some 8) ti36 ?_); intro W8 g8 hE8 hB8 hg8; have hg80 := Nat.le_trans hE.size hg8; simp [Value.cells] at hB8; (try replace hE := hE.trans hE8); (try replace hT0 := hT0.ext hE8); (try replace hL := hL.ext hE8); (try replace hB4 := hB4.ext hE8)) | (((with_reducible refine q_load (d := some 13) (hl := ld_townB hB4) ?_ ?_); rfl)) | ((with_reducible refine q_bl1 (d := some 15) (n0 := a) ?_ ?_); rfl; intro W15 g15 hE15 hB15 hg15; (try replace hE := hE.trans hE15); (try replace hT0 := hT0.ext hE15); (try replace hL := hL.ext hE15); (try replace hB8 := hB8.ext hE15); have hI15 : Ints W15 (.slice (some ⟨g15, 0, none⟩) 1 1) [a] := ints_blk1 hB15; clear hB15 hg15 hE15) | (go_at_call 57; ((with_reducible refine (popen_any _ _ t [a] _ (by exact hT0) (by exact hI15)).mono ?_); rintro e WcP ⟨rfl, hEcP⟩; (try replace hE := hE.trans hEcP); (try replace hT0 := hT0.ext hEcP); (try replace hL := hL.ext hEcP); (try replace hB8 := hB8.ext hEcP); rw [Hoe.out])) | ((with_reducible refine q_newvar (e := 90) (u := 11) (v := .agg #[.slice A1 t.places.length cp1, .slice A2 t.shows.length cp2, .slice A3 t.times.length cp3, .slice A4 t.streets.length cp4]) ti90 ?_ ?_ ?_ ?_ ?_ ?_); (intro g; rfl); (intro g; rfl); rfl; rfl; (simp [Value.cells, Value.oneCell']); intro W11 g11 hE11 hB11 hg11; simp [Value.cells] at hB11; (try replace hE := hE.trans hE11); (try replace hT0 := hT0.ext hE11); (try replace hL := hL.ext hE11); (try replace hB8 := hB8.ext hE11); have hb11_2 := hB11.cell 2; simp at hb11_2; clear hE11) | ((with_reducible refine q_bl1 (d := some 31) (n0 := time) ?_ ?_); rfl; intro W31 g31 hE31 hB31 hg31; (try replace hE := hE.trans hE31); (try replace hT0 := hT0.ext hE31); (try replace hL := hL.ext hE31); (try replace hB8 := hB8.ext hE31); (try replace hB11 := hB11.ext hE31); have hI31 : Ints W31 (.slice (some ⟨g31, 0, none⟩) 1 1) [time] := ints_blk1 hB31; clear hB31 hg31 hE31) | (go_at_call 46; ((with_reducible refine ((pout_v (by exact hI31) m2)).mono ?_); rintro e WcO ⟨rfl, hEcO⟩; (try replace hE := hE.trans hEcO); (try replace hT0 := hT0.ext hEcO); (try replace hL := hL.ext hEcO); (try replace hB8 := hB8.ext hEcO); (try replace hB11 := hB11.ext hEcO))) | (((with_reducible refine q_load (d := some 35) (hl := ld_ptownB hB11) ?_ ?_); rfl)) | (go_at_call 58; ((with_reducible refine (pfollow_any _ _ t a l _ (by exact hT0) hok (by exact hL)).mono ?_); rintro e WcF ⟨rfl, hEcF⟩; (try replace hE := hE.trans hEcF); (try replace hT0 := hT0.ext hEcF); (try replace hL := hL.ext hEcF); (try replace hB8 := hB8.ext hEcF); (try replace hB11 := hB11.ext hEcF))) | (((with_reducible refine q_load (d := some 43) (hl := ld_tourB hB8) ?_ ?_); rfl)) | (((with_reducible refine q_store (t := 36) (e := 36) (g := g8) (off := 0) (n := 5) (v := .agg #[.slice none 0 0, .int .i64 0, .int .i64 0, .int .i64 0, .int .i64 0]) ?_ ?_ hB8 sizeTour ?_ ?_ ?_ ?_); rfl; rfl; rfl; (simp [Value.cells]); (exact one5 rfl); intro Ws hBs hgrs; simp [putAt, Value.cells] at hBs; replace hE := below_grown2 hE hgrs hg80)) | ((with_reducible refine q_box (d := some 4) ?_); intro W4 g4 hE4 hB4 hg4; simp [Act.eval, Act.put, Value.cells] at hB4; (try replace hE := hE.trans hE4); (try replace hT0 := hT0.ext hE4); (try replace hL := hL.ext hE4); clear hE4))
     refine ret_ctt rfl rfl rfl (ld_tourB hBs) ?_
     exact ⟨_, rfl, ⟨_, rfl, OwnSt.nil _ _⟩, hE⟩
 ·have Hoe := Lib.hid (show t.openErr [a] = t.check.2.2 by unfold Town.openErr; rw [if_pos hce])
  rw [Town.driveAns_c hce]
  have q1 : (t.check.2.2 != 0) = true := by simp [hce]
  clear hce
  go_enter Tryz.func20, Tryz.ntmps20
  go_wp2_with (first | ((with_reducible refine q_alloc (d := some 8) ti36 ?_); intro W8 g8 hE8 hB8 hg8; have hg80 := Nat.le_trans hE.size hg8; simp [Value.cells] at hB8; (try replace hE := hE.trans hE8); (try replace hT0 := hT0.ext hE8); (try replace hL := hL.ext hE8); (try replace hB4 := hB4.ext hE8)) | (((with_reducible refine q_load (d := some 13) (hl := ld_townB hB4) ?_ ?_); rfl)) | ((with_reducible refine q_bl1 (d := some 15) (n0 := a) ?_ ?_); rfl; intro W15 g15 hE15 hB15 hg15; (try replace hE := hE.trans hE15); (try replace hT0 := hT0.ext hE15); (try replace hL := hL.ext hE15); (try replace hB8 := hB8.ext hE15); have hI15 : Ints W15 (.slice (some ⟨g15, 0, none⟩) 1 1) [a] := ints_blk1 hB15; clear hB15 hg15 hE15) | (go_at_call 57; ((with_reducible refine (popen_any _ _ t [a] _ (by exact hT0) (by exact hI15)).mono ?_); rintro e WcP ⟨rfl, hEcP⟩; (try replace hE := hE.trans hEcP); (try replace hT0 := hT0.ext hEcP); (try replace hL := hL.ext hEcP); (try replace hB8 := hB8.ext hEcP); rw [Hoe.out])) | ((with_reducible refine q_newvar (e := 90) (u := 11) (v := .agg #[.slice A1 t.places.length cp1, .slice A2 t.shows.length cp2, .slice A3 t.times.length cp3, .slice A4 t.streets.length cp4]) ti90 ?_ ?_ ?_ ?_ ?_ ?_); (intro g; rfl); (intro g; rfl); rfl; rfl; (simp [Value.cells, Value.oneCell']); intro W11 g11 hE11 hB11 hg11; simp [Value.cells] at hB11; (try replace hE := hE.trans hE11); (try replace hT0 := hT0.ext hE11); (try replace hL := hL.ext hE11); (try replace hB8 := hB8.ext hE11); have hb11_2 := hB11.cell 2; simp at hb11_2; clear hE11) | (((with_reducible refine q_load (d := some 22) (hl := ld_tourB hB8) ?_ ?_); rfl)) | (((with_reducible refine q_store (t := 36) (e := 36) (g := g8) (off := 0) (n := 5) (v := .agg #[.slice none 0 0, .int .i64 0, .int .i64 0, .int .i64 0, .int .i64 0]) ?_ ?_ hB8 sizeTour ?_ ?_ ?_ ?_); rfl; rfl; rfl; (simp [Value.cells]); (exact one5 rfl); intro Ws hBs hgrs; simp [putAt, Value.cells] at hBs; replace hE := below_grown2 hE hgrs hg80)) | ((with_reducible refine q_box (d := some 4) ?_); intro W4 g4 hE4 hB4 hg4; simp [Act.eval, Act.put, Value.cells] at hB4; (try replace hE := hE.trans hE4); (try replace hT0 := hT0.ext hE4); (try replace hL := hL.ext hE4); clear hE4))
  refine ret_ctt rfl rfl rfl (ld_tourB hBs) ?_
  exact ⟨_, rfl, ⟨_, rfl, OwnSt.nil _ _⟩, hE⟩
end Go.St
end
section
namespace Go.St
open Go Go.Bp Go.RowKit Go.Proofs
theorem ti34 : (Tryz.prog.info? 34).map (fun i => (i.zero, i.size, i.bytes)) = some (some (.agg #[.int .i64 0, .int .i64 0]), 2, 16) := by kernel_rfl
theorem sizeSpan2 : (Tryz.prog.info? 34).map TypeInfo.size = some 2 := by kernel_rfl
theorem ld_spanB {w : World} {g : Nat} {a b : Value} (h : Blk w g 34 #[a, b]) : (loadVar 34 ⟨g, 0, none⟩).run Tryz.prog w = .ok (.agg #[a, b]) w := ld_blk Tryz.underlying34 sizeSpan2 h rfl
theorem span_any (lo hi : Int) (w : World) : Calls Tryz.prog 45 #[.int .i64 lo, .int .i64 hi] w (fun e w' => e = .returned (.agg #[.int .i64 lo, .int .i64 hi]) ∧ Ext w w') := by
 have hE := Ext.refl w
 go_enter Tryz.func45, Tryz.ntmps45
 go_wp2_with (first | ((with_reducible refine q_alloc (d := some 4) ti34 ?_); intro W4 g4 hE4 hB4 hg4; have hg40 := Nat.le_trans hE.size hg4; simp [Value.cells] at hB4; (try replace hE := hE.trans hE4)) | (((with_reducible refine q_store (t := 34) (e := 34) (g := g4) (off := 0) (n := 2) (v := .agg #[.int .i64 lo, .int .i64 hi]) ?_ ?_ hB4 sizeSpan2 ?_ ?_ ?_ ?_); rfl; rfl; rfl; (simp [Value.cells]); (simp [Value.cells, Value.oneCell']); intro Ws hBs hgrs; simp [putAt, Value.cells] at hBs; replace hE := below_grown2 hE hgrs hg40)))
 refine ret_c1 rfl rfl rfl (ld_spanB hBs) ?_
 exact ⟨rfl, hE⟩
def stepsBy (l : List Int) : List Step := l.map fun n => ⟨n, false⟩
theorem stepsBy_take (l : List Int) {k : Nat} (hk : k < l.length) : stepsBy (l.take (k + 1)) = stepsBy (l.take k) ++ [⟨l[k], false⟩] := by
 unfold stepsBy; rw [take_snoc _ hk, List.map_append]; rfl
set_option maxHeartbeats 2000000 in
theorem lby_any (lv : Value) (l : List Int) (w : World) (h : Ints w lv l) (hle : l.length ≤ 1100) : Calls Tryz.prog 36 #[lv] w (RetSt w (stepsBy l)) := by
 obtain ⟨A, c, rfl, h1, h2, h3, h4⟩ := h
 unfold maxLen at h2
 clear h3
 go_enter Tryz.func36, Tryz.ntmps36
 go_wp2
 go_loopw [3, 4] (fun v i wr => Ext w wr ∧ ∃ k : Nat, k ≤ l.length ∧ i = .int .i64 k ∧ OwnSt w.heap.size wr v (stepsBy (l.take k))) (fun _ i _ => l.length - (intOf i).toNat)
 case atStart => exact ⟨Ext.refl _, 0, by omega, rfl, OwnSt.nil _ _⟩
 case round =>
  obtain ⟨hEr, k, hk, rfl, hO⟩ := hrel
  by_cases hlt : k < l.length
  ·obtain ⟨ad, rfl, hc⟩ := h4 (by omega)
   have e1 := (hc.ext hEr).i hlt
   have Ht := Lib.hid (stepsBy_take l hlt)
   have hlen : (stepsBy (l.take k)).length ≤ 1000000000 := by unfold stepsBy; simp; omega
   clear h4 hc
   obtain ⟨n, hn⟩ : ∃ n, l[k] = n := ⟨_, rfl⟩
   rw [hn] at e1 Ht
   obtain ⟨xs, hxs⟩ : ∃ xs, stepsBy (l.take k) = xs := ⟨_, rfl⟩
   rw [hxs] at hO hlen Ht
   clear hn hxs
   have z1 : (k : Int) < (l.length : Int) := by omega
   go_wp2_with (first | ((with_reducible refine q_bsSt (d := some 17) (p := n) (q := false) ?_ ?_); rfl; intro W20 g20 hE20 hB20 hg20; replace hEr := hEr.trans hE20; replace hO := hO.ext hE20) | ((with_reducible refine q_appSt2 (d := some 18) (y := ⟨n, false⟩) ?_ hO ?_ hB20 ?_ ?_ ?_); rfl; rfl; exact hlen; exact hEr.size; intro A21 c21 W21 hO21 hm21 hg21; replace hEr := hm21 _ hEr))
   go_roundw
   case rel => exact ⟨hEr, k + 1, by omega, by go_num, by rw [Ht.out]; exact hO21⟩
   case measure => simp [intOf]; omega
  ·obtain rfl : k = l.length := by omega
   rw [List.take_length] at hO
   clear h4
   go_wp2
   go_ret
   exact ⟨_, rfl, hO, hEr⟩
def exTour : List Step := [⟨0, false⟩, ⟨0, true⟩, ⟨2, false⟩]
theorem bsSt3 (w : World) : (Instr.buildSlice 32 3 #[(0, .agg #[.int .i64 0, .bool false]), (1, .agg #[.int .i64 0, .bool true]), (2, .agg #[.int .i64 2, .bool false])]).run Tryz.prog w = .ok (.slice (some ⟨w.heap.size, 0, none⟩) 3 3) (w.alloc (.cells #[.int .i64 0, .bool false, .int .i64 0, .bool true, .int .i64 2, .bool false] 82)) := by kernel_rfl
theorem steps_blk {w : World} {g : Nat} {xs : List Step} (h : Blk w g 82 (encSt xs).toArray) (hn : xs.length ≤ 1000) : Steps w (.slice (some ⟨g, 0, none⟩) xs.length xs.length) xs :=
 ⟨_, _, rfl, Nat.le_refl _, by unfold maxLen; omega, by rw [encSt_len], fun _ => ⟨_, rfl, h.cells⟩⟩
theorem Tour_any (w : World) : Calls Tryz.prog 56 #[] w (fun e w' => ∃ v, e = .returned v ∧ Steps w' v exTour ∧ Ext w w') := by
 have hE := Ext.refl w
 go_enter Tryz.func56, Tryz.ntmps56
 go_wp2_with (first | ((with_reducible refine q_bslice (d := some 4) (e := 82) (cs := #[.int .i64 0, .bool false, .int .i64 0, .bool true, .int .i64 2, .bool false]) ?_ ?_); (simp [Act.eval]; exact bsSt3 _); intro W4 g4 hE4 hB4 hg4; replace hE := hE.trans hE4))
 go_ret
 exact ⟨_, rfl, steps_blk (xs := exTour) hB4 (by decide), hE⟩
end Go.St
end
section
namespace Go.St
open Go Go.Bp Go.RowKit Go.Proofs
def bHome : ByteArray := ⟨#[104, 111, 109, 101]⟩
def bHill : ByteArray := ⟨#[104, 105, 108, 108]⟩
def bRing : ByteArray := ⟨#[114, 105, 110, 103]⟩
def bDepot : ByteArray := ⟨#[100, 101, 112, 111, 116]⟩
def bTram : ByteArray := ⟨#[116, 114, 97, 109]⟩
def bBend : ByteArray := ⟨#[98, 101, 110, 100]⟩
def bAm : ByteArray := ⟨#[97, 109]⟩
def bPm : ByteArray := ⟨#[112, 109]⟩
def exTown : Town := ⟨[bHome, bHill, bRing, bDepot], [bTram, bBend], [bAm, bPm], [⟨0, 1, 300, 1, 2, true, [2, 2]⟩, ⟨1, 2, 500, 2, 3, true, [0, 1]⟩, ⟨0, 2, 400, 1, 4, false, [0, 0]⟩, ⟨2, 0, 600, 2, 2, false, [1, 1]⟩]⟩
theorem strs_blk {w : World} {g : Nat} {xs : List ByteArray} (h : Blk w g 9 (encS xs).toArray) (hn : xs.length ≤ 1000) : Strs w (.slice (some ⟨g, 0, none⟩) xs.length xs.length) xs :=
 ⟨_, _, rfl, Nat.le_refl _, by unfold maxLen; omega, by simp [encS], fun _ => ⟨_, rfl, h.cells⟩⟩
theorem bsStr4 (w : World) (a b c d : ByteArray) : (Instr.buildSlice 22 4 #[(0, .string a), (1, .string b), (2, .string c), (3, .string d)]).run Tryz.prog w = .ok (.slice (some ⟨w.heap.size, 0, none⟩) 4 4) (w.alloc (.cells #[.string a, .string b, .string c, .string d] 9)) := by kernel_rfl
theorem bsStr2 (w : World) (a b : ByteArray) : (Instr.buildSlice 22 2 #[(0, .string a), (1, .string b)]).run Tryz.prog w = .ok (.slice (some ⟨w.heap.size, 0, none⟩) 2 2) (w.alloc (.cells #[.string a, .string b] 9)) := by kernel_rfl
theorem bsT4 (w : World) (p q r s : Nat) : (Instr.buildSlice 23 4 #[(0, .agg #[.int .i64 0, .int .i64 1, .int .i64 300, .int .i64 1, .int .i64 2, .bool true, .slice (some ⟨p, 0, none⟩) 2 2]), (1, .agg #[.int .i64 1, .int .i64 2, .int .i64 500, .int .i64 2, .int .i64 3, .bool true, .slice (some ⟨q, 0, none⟩) 2 2]), (2, .agg #[.int .i64 0, .int .i64 2, .int .i64 400, .int .i64 1, .int .i64 4, .bool false, .slice (some ⟨r, 0, none⟩) 2 2]), (3, .agg #[.int .i64 2, .int .i64 0, .int .i64 600, .int .i64 2, .int .i64 2, .bool false, .slice (some ⟨s, 0, none⟩) 2 2])]).run Tryz.prog w = .ok (.slice (some ⟨w.heap.size, 0, none⟩) 4 4) (w.alloc (.cells #[.int .i64 0, .int .i64 1, .int .i64 300, .int .i64 1, .int .i64 2, .bool true, .slice (some ⟨p, 0, none⟩) 2 2, .int .i64 1, .int .i64 2, .int .i64 500, .int .i64 2, .int .i64 3, .bool true, .slice (some ⟨q, 0, none⟩) 2 2, .int .i64 0, .int .i64 2, .int .i64 400, .int .i64 1, .int .i64 4, .bool false, .slice (some ⟨r, 0, none⟩) 2 2, .int .i64 2, .int .i64 0, .int .i64 600, .int .i64 2, .int .i64 2, .bool false, .slice (some ⟨s, 0, none⟩) 2 2] 87)) := by kernel_rfl
theorem streets_ex {w : World} {g : Nat} {s1 s2 s3 s4 : Value} (hB : Blk w g 87 #[.int .i64 0, .int .i64 1, .int .i64 300, .int .i64 1, .int .i64 2, .bool true, s1, .int .i64 1, .int .i64 2, .int .i64 500, .int .i64 2, .int .i64 3, .bool true, s2, .int .i64 0, .int .i64 2, .int .i64 400, .int .i64 1, .int .i64 4, .bool false, s3, .int .i64 2, .int .i64 0, .int .i64 600, .int .i64 2, .int .i64 2, .bool false, s4]) (h1 : Ints w s1 [2, 2]) (h2 : Ints w s2 [0, 1]) (h3 : Ints w s3 [0, 0]) (h4 : Ints w s4 [1, 1]) : Streets w (.slice (some ⟨g, 0, none⟩) 4 4) exTown.streets := by
 refine ⟨_, 4, rfl, by decide, by unfold maxLen; decide, fun _ => ⟨_, rfl, fun k hk => ?_⟩⟩
 have hk' : k < 4 := hk
 obtain rfl | rfl | rfl | rfl : k = 0 ∨ k = 1 ∨ k = 2 ∨ k = 3 := by omega
 ·exact ⟨s1, hB.cells.sub 0 (by intro j u hu; rcases j with _ | _ | _ | _ | _ | _ | _ | j <;> simp_all [exTown]), h1⟩
 ·exact ⟨s2, hB.cells.sub 7 (by intro j u hu; rcases j with _ | _ | _ | _ | _ | _ | _ | j <;> simp_all [exTown]), h2⟩
 ·exact ⟨s3, hB.cells.sub 14 (by intro j u hu; rcases j with _ | _ | _ | _ | _ | _ | _ | j <;> simp_all [exTown]), h3⟩
 ·exact ⟨s4, hB.cells.sub 21 (by intro j u hu; rcases j with _ | _ | _ | _ | _ | _ | _ | j <;> simp_all [exTown]), h4⟩
theorem town_ne {w : World} {g g' : Nat} {cs cs' : Array Value} {t : TypeId} (h1 : Blk w g 25 cs) (h2 : Blk w g' t cs') (ht : t ≠ 25) : g' ≠ g := by
 rintro rfl
 have h := h1.symm.trans h2
 simp only [Option.some.injEq, Obj.cells.injEq] at h
 exact ht h.2.1.symm
theorem ex_wf : exTown.wf := by
 intro s hs
 simp [exTown] at hs
 rcases hs with rfl | rfl | rfl | rfl | rfl | rfl | rfl | rfl <;> decide
set_option maxHeartbeats 4000000 in
theorem Town_any (w : World) : Calls Tryz.prog 35 #[] w (fun e w' => ∃ v, e = .returned v ∧ TownV w' v exTown ∧ Ext w w') := by
 have hE := Ext.refl w
 go_enter Tryz.func35, Tryz.ntmps35
 go_wp2_with (first | ((with_reducible refine q_alloc (d := some 0) ti25 ?_); intro W0 g0 hE0 hB0 hg0; have hg00 := Nat.le_trans hE.size hg0; simp [Value.cells] at hB0; (try replace hE := hE.trans hE0)) | (((with_reducible refine q_bslice (d := some 1) (e := 9) (cs := #[.string bHome, .string bHill, .string bRing, .string bDepot]) ?_ ?_); (simp [Act.eval]; exact bsStr4 _ _ _ _ _); intro W1 g1 hE1 hB1 hg1; replace hE := hE.trans hE1; (try replace hB0 := hB0.ext hE1))) | (((with_reducible refine q_bslice (d := some 2) (e := 9) (cs := #[.string bTram, .string bBend]) ?_ ?_); (simp [Act.eval]; exact bsStr2 _ _ _); intro W2 g2 hE2 hB2 hg2; replace hE := hE.trans hE2; (try replace hB0 := hB0.ext hE2); (try replace hB1 := hB1.ext hE2))) | (((with_reducible refine q_bslice (d := some 3) (e := 9) (cs := #[.string bAm, .string bPm]) ?_ ?_); (simp [Act.eval]; exact bsStr2 _ _ _); intro W3 g3 hE3 hB3 hg3; replace hE := hE.trans hE3; (try replace hB0 := hB0.ext hE3); (try replace hB1 := hB1.ext hE3); (try replace hB2 := hB2.ext hE3))) | (((with_reducible refine q_bl2 (d := some 5) (n0 := 2) (n1 := 2) ?_ ?_ ?_); rfl; rfl; intro W5 g5 hE5 hB5 hg5; replace hE := hE.trans hE5; (try replace hB0 := hB0.ext hE5); (try replace hB1 := hB1.ext hE5); (try replace hB2 := hB2.ext hE5); (try replace hB3 := hB3.ext hE5))) | (((with_reducible refine q_bl2 (d := some 8) (n0 := 0) (n1 := 1) ?_ ?_ ?_); rfl; rfl; intro W8 g8 hE8 hB8 hg8; replace hE := hE.trans hE8; (try replace hB0 := hB0.ext hE8); (try replace hB1 := hB1.ext hE8); (try replace hB2 := hB2.ext hE8); (try replace hB3 := hB3.ext hE8); (try replace hB5 := hB5.ext hE8))) | (((with_reducible refine q_bl2 (d := some 11) (n0 := 0) (n1 := 0) ?_ ?_ ?_); rfl; rfl; intro W11 g11 hE11 hB11 hg11; replace hE := hE.trans hE11; (try replace hB0 := hB0.ext hE11); (try replace hB1 := hB1.ext hE11); (try replace hB2 := hB2.ext hE11); (try replace hB3 := hB3.ext hE11); (try replace hB5 := hB5.ext hE11); (try replace hB8 := hB8.ext hE11))) | (((with_reducible refine q_bl2 (d := some 14) (n0 := 1) (n1 := 1) ?_ ?_ ?_); rfl; rfl; intro W14 g14 hE14 hB14 hg14; replace hE := hE.trans hE14; (try replace hB0 := hB0.ext hE14); (try replace hB1 := hB1.ext hE14); (try replace hB2 := hB2.ext hE14); (try replace hB3 := hB3.ext hE14); (try replace hB5 := hB5.ext hE14); (try replace hB8 := hB8.ext hE14); (try replace hB11 := hB11.ext hE14))) | (go_at_call 45; ((with_reducible refine (span_any _ _ _).mono ?_); rintro e Wc1 ⟨rfl, hEc1⟩; (try replace hE := hE.trans hEc1); (try replace hB1 := hB1.ext hEc1); (try replace hB2 := hB2.ext hEc1); (try replace hB3 := hB3.ext hEc1); (try replace hB5 := hB5.ext hEc1); (try replace hB8 := hB8.ext hEc1); (try replace hB11 := hB11.ext hEc1); (try replace hB0 := hB0.ext hEc1))) | (((with_reducible refine q_bslice (d := some 16) (e := 87) (cs := #[.int .i64 0, .int .i64 1, .int .i64 300, .int .i64 1, .int .i64 2, .bool true, .slice (some ⟨g5, 0, none⟩) 2 2, .int .i64 1, .int .i64 2, .int .i64 500, .int .i64 2, .int .i64 3, .bool true, .slice (some ⟨g8, 0, none⟩) 2 2, .int .i64 0, .int .i64 2, .int .i64 400, .int .i64 1, .int .i64 4, .bool false, .slice (some ⟨g11, 0, none⟩) 2 2, .int .i64 2, .int .i64 0, .int .i64 600, .int .i64 2, .int .i64 2, .bool false, .slice (some ⟨g14, 0, none⟩) 2 2]) ?_ ?_); (simp [Act.eval]; exact bsT4 _ _ _ _ _); intro W16 g16 hE16 hB16 hg16; replace hE := hE.trans hE16; (try replace hB0 := hB0.ext hE16); (try replace hB1 := hB1.ext hE16); (try replace hB2 := hB2.ext hE16); (try replace hB3 := hB3.ext hE16); (try replace hB5 := hB5.ext hE16); (try replace hB8 := hB8.ext hE16); (try replace hB11 := hB11.ext hE16); (try replace hB14 := hB14.ext hE16))) | (((with_reducible refine q_store (t := 25) (e := 25) (g := g0) (off := 0) (n := 4) (v := .agg #[.slice (some ⟨g1, 0, none⟩) 4 4, .slice (some ⟨g2, 0, none⟩) 2 2, .slice (some ⟨g3, 0, none⟩) 2 2, .slice (some ⟨g16, 0, none⟩) 4 4]) ?_ ?_ hB0 sizeTown ?_ ?_ ?_ ?_); rfl; rfl; rfl; (simp [Value.cells]); (simp [Value.cells, Value.oneCell']); intro Ws hBs hgrs; simp [putAt, Value.cells] at hBs; replace hB1 := hB1.grown hgrs (fun e => town_ne hB0 hB1 (by decide) (Option.some.inj e)); replace hB2 := hB2.grown hgrs (fun e => town_ne hB0 hB2 (by decide) (Option.some.inj e)); replace hB3 := hB3.grown hgrs (fun e => town_ne hB0 hB3 (by decide) (Option.some.inj e)); replace hB5 := hB5.grown hgrs (fun e => town_ne hB0 hB5 (by decide) (Option.some.inj e)); replace hB8 := hB8.grown hgrs (fun e => town_ne hB0 hB8 (by decide) (Option.some.inj e)); replace hB11 := hB11.grown hgrs (fun e => town_ne hB0 hB11 (by decide) (Option.some.inj e)); replace hB14 := hB14.grown hgrs (fun e => town_ne hB0 hB14 (by decide) (Option.some.inj e)); replace hB16 := hB16.grown hgrs (fun e => town_ne hB0 hB16 (by decide) (Option.some.inj e)))))
 refine ret_c1 rfl rfl rfl (ld_townB hBs) ?_
 refine ⟨_, rfl, TownV.of ⟨strs_blk (xs := exTown.places) hB1 (by decide), strs_blk (xs := exTown.shows) hB2 (by decide), strs_blk (xs := exTown.times) hB3 (by decide), streets_ex hB16 (ints_blk2 hB5) (ints_blk2 hB8) (ints_blk2 hB11) (ints_blk2 hB14), ex_wf⟩, ?_⟩
 exact below_grown2 hE hgrs hg00
end Go.St
end
section
namespace Go.St
open Go Go.Bp Go.RowKit Go.Proofs
def cmpI (a b : Int) : Int := if a < b then -1 else if a > b then 1 else 0
theorem cmpCompare_any (a b : Int) (w : World) : Calls Tryz.prog 121 #[.int .i64 a, .int .i64 b] w (RetI w (cmpI a b)) := by
 have hE := Ext.refl w
 by_cases h1 : a < b
 ·have Hr := Lib.hid (show cmpI a b = -1 by unfold cmpI; rw [if_pos h1])
  go_enter Tryz.func121, Tryz.ntmps121
  go_wp2
  go_ret
  exact RetI.of Hr.out hE
 ·by_cases h2 : b < a
  ·have Hr := Lib.hid (show cmpI a b = 1 by unfold cmpI; rw [if_neg h1, if_pos h2])
   go_enter Tryz.func121, Tryz.ntmps121
   go_wp2
   go_ret
   exact RetI.of Hr.out hE
  ·have Hr := Lib.hid (show cmpI a b = 0 by unfold cmpI; rw [if_neg h1, if_neg h2])
   go_enter Tryz.func121, Tryz.ntmps121
   go_wp2
   go_ret
   exact RetI.of Hr.out hE
def firstNZ : List Int → Int
 | [] => 0
 | x :: l => if x ≠ 0 then x else firstNZ l
theorem firstNZ_drop {l : List Int} {k : Nat} (hk : k < l.length) : firstNZ (l.drop k) = if l[k] ≠ 0 then l[k] else firstNZ (l.drop (k + 1)) := by
 rw [List.drop_eq_getElem_cons hk]; rfl
set_option maxHeartbeats 1000000 in
theorem cmpOr_any (v : Value) (l : List Int) (w : World) (h : Ints w v l) : Calls Tryz.prog 120 #[v] w (RetI w (firstNZ l)) := by
 obtain ⟨A, c, rfl, h1, h2, h3, h4⟩ := h
 unfold maxLen at h2
 clear h3
 go_enter Tryz.func120, Tryz.ntmps120
 go_wp2
 go_loopw [8] (fun i wr => Ext w wr ∧ ∃ k : Nat, k ≤ l.length ∧ i = .int .i64 k ∧ firstNZ l = firstNZ (l.drop k)) (fun i _ => l.length - (intOf i).toNat)
 case atStart => exact ⟨Ext.refl _, 0, by omega, rfl, rfl⟩
 case round =>
  obtain ⟨hEr, k, hk, rfl, hn⟩ := hrel
  have Hn := Lib.hid hn
  clear hn
  by_cases hlt : k < l.length
  ·obtain ⟨ad, rfl, hc⟩ := h4 (by omega)
   have e1 := (hc.ext hEr).i hlt
   have Hd := Lib.hid (firstNZ_drop hlt)
   clear h4 hc
   by_cases hx : l[k] = 0
   ·have Hs := Lib.hid (show firstNZ l = firstNZ (l.drop (k + 1)) by rw [Hn.out, Hd.out, if_neg (by simp [hx])])
    have q0 : (l[k] != 0) = false := by simp [hx]
    clear hx
    go_wp2
    go_roundw
    case rel => exact ⟨hEr, k + 1, by omega, by go_num, Hs.out⟩
    case measure => simp [intOf]; omega
   ·have Hs := Lib.hid (show firstNZ l = l[k] by rw [Hn.out, Hd.out, if_pos hx])
    have q0 : (l[k] != 0) = true := by simp [hx]
    clear hx
    go_wp2
    go_ret
    exact RetI.of Hs.out hEr
  ·obtain rfl : k = l.length := by omega
   have Hs := Lib.hid (show firstNZ l = 0 by rw [Hn.out, List.drop_length]; rfl)
   clear h4
   go_wp2
   go_ret
   exact RetI.of Hs.out hEr
end Go.St
end
