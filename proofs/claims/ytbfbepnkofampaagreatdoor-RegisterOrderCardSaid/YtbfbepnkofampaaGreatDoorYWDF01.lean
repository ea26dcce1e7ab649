/- Chapter 11: contracts of functions of the program and of the reference, and plain laws (out of RgT). No condition of its own. -/
import Derived.Lib.AtoiAll
import Derived.Lib.ItoaMem
import Derived.Lib.Split
import Derived.Test.YtbfbepnkofampaaGreatDoorYP04
set_option maxRecDepth 100000
set_option linter.all false
section
namespace Go.Rg
open Go.Bp
namespace Rules
variable{r:Rules}
theorem person_of{p:Person}(hc:r.check.2.2=0)(hb:0≤p.born∧p.born≤40000)(hn:p.events.length≤30)(he:∀x∈p.events,r.eventErr p.born x=0):r.personErr p=0:=by
 unfold personErr;rw[if_neg (by simpa using hc),inB_t.2 hb,if_neg (by simp),if_neg (by omega),firstE_none (fun i hi=>he _ (List.getElem_mem hi))]
end Rules
end Go.Rg
end
