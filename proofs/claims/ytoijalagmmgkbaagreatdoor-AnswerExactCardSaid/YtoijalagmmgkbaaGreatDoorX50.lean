/- The proof of a statement of the seat, part 50. -/
import Derived.Test.YtoijalagmmgkbaaGreatDoorX49
set_option linter.all false
set_option linter.defProp false
section
set_option maxRecDepth 1000000
namespace Go.Proofs.YtoijalagmmgkbaaGreatDoor.ob
open Go.ChangeShapes Go.WideShapes Go.ChangeAt Go.RowKit
theorem goes:false=Rows.answerExactRow.goesBy Tryz.pinned.checked.prog:=by kernel_rfl
end Go.Proofs.YtoijalagmmgkbaaGreatDoor.ob
end
