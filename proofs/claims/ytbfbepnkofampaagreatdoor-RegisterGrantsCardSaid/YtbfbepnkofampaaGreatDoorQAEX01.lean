/- Chapter 11: contracts of functions of the program and of the reference, and plain laws (out of ROP). No condition of its own. -/
import Derived.ChangeMaps5
import Derived.Deep.LoopGhost
import Derived.Defers
import Derived.Ground.GgzProg
import Derived.Ground.SlgmProg
import Derived.Ground.SlsfProg
import Derived.IntWalk
import Derived.LaidMore
import Derived.Laws.RangeAny
import Derived.Laws.StructEq
import Derived.Lay
import Derived.Lib.AtoiAll
import Derived.Lib.ItoaMem
import Derived.Lib.LazyBuf
import Derived.Lib.SlKeysI
import Derived.Lib.Split
import Derived.MapKept
import Derived.Maps.OwnSet
import Derived.Maps.RangeRun
import Derived.OpenShut
import Derived.OrdersIn
import Derived.ProofKit
import Derived.RangeFuncLeaves
import Derived.RangeFuncNested
import Derived.Recover
import Derived.Shelf.Abstract
import Derived.Shelf.Lay
import Derived.Shelf.SlIterI.Nil
import Derived.Shelf.SlSortCmp.NoneTotal
import Derived.Shelf.SlSortCmp.WholeK
import Derived.Shelf.SortM.Plain
import Derived.Shelf.SortM.SortNone
import Derived.SliceStrings
import Derived.Sort.Grow
import Derived.TacticsIn
import Derived.Test.YtbfbepnkofampaaGreatDoorProg
import Derived.WalkMore
import Derived.WalkSmall
import Derived.Test.YtbfbepnkofampaaGreatDoorP02
set_option maxRecDepth 100000
set_option linter.all false
section
namespace Go.Rg
open Go Go.Bp Go.RowKit Go.Walk Go.Proofs Go.ChangeShapes Go.WideShapes Go.ChangeAt
section
variable {H : Type} {enc : TypeId × Value → H} {w : World} {b0 : Nat}
theorem wf_u16 {n : Int} (h : (Lit.int .u16 n).wf = true) : 0 ≤ n ∧ n ≤ 65535 := by
 simp [Lit.wf, IntKind.min, IntKind.max, IntKind.signed, IntKind.bits] at h
 omega
end
end Go.Rg
end
