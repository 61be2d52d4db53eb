/- The proof of a statement of the seat, part 48. -/
import Derived.Test.YtoijalagmmgkbaaGreatDoorX46
set_option linter.all false
set_option linter.defProp false
section
set_option maxRecDepth 1000000
namespace Go.Proofs.YtoijalagmmgkbaaGreatDoor.eT
open Go.ChangeShapes Go.WideShapes Go.ChangeAt Go.RowKit
theorem goes:false=Rows.answerCountsRow.goesBy Tryz.pinned.checked.prog:=by kernel_rfl
end Go.Proofs.YtoijalagmmgkbaaGreatDoor.eT
end
