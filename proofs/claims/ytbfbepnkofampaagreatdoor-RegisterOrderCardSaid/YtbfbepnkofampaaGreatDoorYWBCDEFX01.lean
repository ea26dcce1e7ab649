/- Chapter 11: contracts of functions of the program and of the reference, and plain laws (out of RZd). No condition of its own. -/
import Derived.Test.YtbfbepnkofampaaGreatDoorYPX10
set_option maxRecDepth 100000
set_option linter.all false
section
namespace Go.Rg
open Go Go.Bp Go.RowKit Go.Walk Go.Proofs
set_option synthInstance.maxSize 2000
set_option synthInstance.maxHeartbeats 400000
set_option maxHeartbeats 4000000
instance(priority:=2000)rowHeld{W:World}{v pv:Value}{r:Rules}{p:Person}{day:Int}{l:List Right}{n:Int}[h:RulesC W v r][hp:PersonC W pv p][q:HeldE r p day l n]:FunC Tryz.prog 27 #[v,pv,.int .i64 day] W (RLR 74 W l n):=⟨Held_row r p v pv day l n W h.h hp.h q.h⟩
end Go.Rg
end
