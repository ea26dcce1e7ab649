/- Chapter 03: contracts of functions of the program and of the reference, and plain laws (out of StV). No condition of its own. -/
import Derived.Test.YtfjnacajjpaeiaaGreatDoorP06
set_option maxRecDepth 100000
set_option linter.all false
section
namespace Go.St
open Go.Bp
namespace Town
variable{t:Town}{k:Task}
/-! ### Table proves -/
theorem Fx(h:TaskOk t k)(p s:Int): -1≤(cv (t.cost k p s)).1∧(cv (t.cost k p s)).1≤20000000:=by
 cases e:t.cost k p s with
 |none=>rw[Er];decide
 |some c=>
  have:=cost_bd h e;rw[iQ];omega
/-! ### No tour is shorter -/
/-! ### By way of another place -/
end Town
end Go.St
end
