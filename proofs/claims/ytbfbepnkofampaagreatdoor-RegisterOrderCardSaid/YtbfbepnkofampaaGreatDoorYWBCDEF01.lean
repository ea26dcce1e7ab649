/- Chapter 11: contracts of functions of the program and of the reference, and plain laws (out of RgW). No condition of its own. -/
import Derived.Test.YtbfbepnkofampaaGreatDoorYP05
set_option maxRecDepth 100000
set_option linter.all false
section
namespace Go.Rg
open Go.Bp
namespace Rules
variable{r:Rules}
theorem heldAns_of{p:Person}(h:r.personErr p=0){day:Int}(hd:0≤day∧day≤40000)(hb:p.born≤day):r.heldAns p day=if r.bannedBy (sortE p.events) day≠0 then([],0) else(r.sys.least (heldL (r.grants p.born (sortE p.events)) day),0):=by
 unfold heldAns;rw[if_neg (by simpa using h),if_neg (by rw[inB_t.2 hd];simp),if_neg (by omega)]
end Rules
end Go.Rg
end
