/- Lemmas, part 47. -/
import Derived.Test.YtoijalagmmgkbaaGreatDoorX45
set_option linter.all false
set_option linter.defProp false
section
set_option maxRecDepth 1000000
namespace Go.Proofs.YtoijalagmmgkbaaGreatDoor.Bf
open Go.ChangeShapes Go.WideShapes Go.ChangeAt Go.RowKit
theorem goes:false=Rows.answerSampledRow.goesBy Tryz.pinned.checked.prog:=by kernel_rfl
end Go.Proofs.YtoijalagmmgkbaaGreatDoor.Bf
end
