/- The proof of a statement of the seat, part 48. -/
import Derived.Test.YtoijalagmmgkbaaGreatDoorX46
set_option linter.all false
set_option linter.defProp false
section
set_option maxRecDepth 1000000
namespace Go.Proofs.YtoijalagmmgkbaaGreatDoor.ao
open Go.ChangeShapes Go.WideShapes Go.ChangeAt Go.RowKit
theorem goes:false=Rows.answerNarrowsRow.goesBy Tryz.pinned.checked.prog:=by kernel_rfl
end Go.Proofs.YtoijalagmmgkbaaGreatDoor.ao
end
