/- The proof of a statement of the seat, part 48. -/
import Derived.Test.YtoijalagmmgkbaaGreatDoorX47
set_option linter.all false
set_option linter.defProp false
section
set_option maxRecDepth 1000000
namespace Go.Proofs.YtoijalagmmgkbaaGreatDoor.zl
open Go.ChangeShapes Go.WideShapes Go.ChangeAt Go.RowKit
theorem goes:false=Rows.answerTopRow.goesBy Tryz.pinned.checked.prog:=by kernel_rfl
end Go.Proofs.YtoijalagmmgkbaaGreatDoor.zl
end
