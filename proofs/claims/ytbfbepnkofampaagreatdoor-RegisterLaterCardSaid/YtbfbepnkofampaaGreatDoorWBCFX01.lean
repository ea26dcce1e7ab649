/- Chapter 11: contracts of functions of the program and of the reference, and plain laws (out of RZd). No condition of its own. -/
import Derived.Test.YtbfbepnkofampaaGreatDoorPX09
set_option maxRecDepth 100000
set_option linter.all false
section
namespace Go.Rg
open Go Go.Bp Go.RowKit Go.Walk Go.Proofs
set_option synthInstance.maxSize 2000
set_option synthInstance.maxHeartbeats 400000
set_option maxHeartbeats 4000000
instance (priority := 2000) rowBans {W : World} {v pv : Value} {r : Rules} {p : Person} {l : List Span} {n : Int} [h : RulesC W v r] [hp : PersonC W pv p] [q : BansE r p l n] : FunC Tryz.prog 22 #[v, pv] W (RLR 95 W l n) := ⟨Bans_row r p v pv l n W h.h hp.h q.h⟩
end Go.Rg
end
