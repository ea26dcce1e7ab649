/- Chapter 11: contracts of functions of the program and of the reference, and plain laws (out of ROP). No condition of its own. -/
import Derived.Test.YtbfbepnkofampaaGreatDoorPX05
set_option maxRecDepth 100000
set_option linter.all false
section
namespace Go.Rg
open Go Go.Bp Go.RowKit Go.Walk Go.Proofs Go.ChangeShapes Go.WideShapes Go.ChangeAt
section
variable {H : Type} {enc : TypeId × Value → H} {w : World} {b0 : Nat}
theorem cells57 : Tryz.prog.cellsOf 57 = 3 := by kernel_rfl
theorem at_drive {n : Nat} {cs : List Value} {x : DataW H × List MemPlace} (h : Tr enc w n 57 cs x) : ∃ d : Drive, cs = Enc.enc d := by
 obtain ⟨xs, m, _, _, hl, hx, hE⟩ := DataW.trod_struct Tryz.underlying57 h; rw [cells57] at hl; have hx3 : xs.length = 3 := hx
 have e0 : DataW.trod enc Tryz.prog w 0 (fun _ => true) true m 3 ((cs.drop 0).take (Tryz.prog.cellsOf 3)) = xs[0]? := hE 0 _ rfl; rw [cells3, List.getElem?_eq_getElem (by omega)] at e0
 have e1 : DataW.trod enc Tryz.prog w 0 (fun _ => true) true m 3 ((cs.drop 1).take (Tryz.prog.cellsOf 3)) = xs[1]? := hE 1 _ rfl; rw [cells3, List.getElem?_eq_getElem (by omega)] at e1
 have e2 : DataW.trod enc Tryz.prog w 0 (fun _ => true) true m 3 ((cs.drop 2).take (Tryz.prog.cellsOf 3)) = xs[2]? := hE 2 _ rfl; rw [cells3, List.getElem?_eq_getElem (by omega)] at e2
 obtain ⟨a, h0⟩ := at_int e0
 obtain ⟨b, h1⟩ := at_int e1
 obtain ⟨c, h2⟩ := at_int e2
 refine ⟨⟨a, b, c⟩, ?_⟩
 have e := chop 0 1 1 h0 rfl; rw [chop 1 1 2 h1 rfl, chop 2 1 3 h2 rfl, drop_end hl] at e
 simpa [Enc.enc] using e
end
end Go.Rg
end
