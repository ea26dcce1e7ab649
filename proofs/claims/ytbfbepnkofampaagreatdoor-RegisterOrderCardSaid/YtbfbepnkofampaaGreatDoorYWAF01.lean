/- Chapter 11: contracts of functions of the program and of the reference, and plain laws (out of RgT). No condition of its own. -/
import Derived.Lib.AtoiAll
import Derived.Lib.ItoaMem
import Derived.Lib.Split
import Derived.Test.YtbfbepnkofampaaGreatDoorYP04
set_option maxRecDepth 100000
set_option linter.all false
section
namespace Go.Rg
open Go.Bp
namespace Rules
variable{r:Rules}
theorem sort_same{l m:List Event}(h:∀x,x∈l↔x∈m):sortE l=sortE m:=sortE_eq (sortE_sorted l) (fun y=>by rw[sortE_mem];exact h y)
end Rules
end Go.Rg
end
