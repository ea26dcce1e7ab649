/- Chapter 11: contracts of functions of the program and of the reference, and plain laws (out of NB). No condition of its own. -/
import Derived.Test.YtbfbepnkofampaaGreatDoorProg
import Derived.Test.YtbfbepnkofampaaGreatDoorYP03
set_option maxRecDepth 100000
set_option linter.all false
section
namespace Go.Walk
open Go Go.Bp Go.RowKit Go.Proofs
instance qNB48:StrucT Tryz.prog 86 7:=⟨⟨_,Tryz.underlying86⟩,by kernel_rfl⟩
instance qNB153:ZeroT Tryz.prog 86 [.slice none 0 0,.int .i64 0,.int .i64 0,.int .i64 0,.slice none 0 0,.int .i64 0,.string ByteArray.empty]:=⟨.agg #[.slice none 0 0,.int .i64 0,.int .i64 0,.int .i64 0,.slice none 0 0,.int .i64 0,.string ByteArray.empty],96,by kernel_rfl,by simp[Value.cells],by decide⟩
end Go.Walk
end
