/- Closed facts of the row of SheetLines: what the program names and calls from this law on, as the row lists it. -/
import Derived.Test.YthomnkgiaapljaaGreatDoorM13
set_option maxRecDepth 100000
namespace Go.Proofs.YthomnkgiaapljaaGreatDoor
open Go Go.Bp Go.RowKit Go.Proofs Go.ChangeShapes Go.WideShapes Go.ChangeAt
theorem ip6 : (Rows.sheetLinesRow.inPlace == Tryz.pinned.checked.prog.inPlace 6) = true := by kernel_rfl
theorem uf6 : (Rows.sheetLinesRow.unfollowed == Tryz.pinned.checked.prog.unfollowed 6) = true := by kernel_rfl
theorem rc6 : (Rows.sheetLinesRow.recurses == Tryz.pinned.checked.prog.recurses 6) = true := by kernel_rfl
theorem nm6 : (Rows.sheetLinesRow.named == Tryz.pinned.checked.prog.varsNamed 6) = true := by kernel_rfl
theorem closed6 : joinedFacts Tryz.pinned.checked.prog 6 Tryz.f6 Rows.sheetLinesSpec Rows.sheetLinesRow = true := by
  unfold joinedFacts
  rw [ip6, uf6, rc6, nm6]
  kernel_rfl
end Go.Proofs.YthomnkgiaapljaaGreatDoor
