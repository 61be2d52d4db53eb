/- The proof of a statement of the seat, part 51. -/
import Derived.Test.YtoijalagmmgkbaaGreatDoorX47
import Derived.Test.YtoijalagmmgkbaaGreatDoorX49
import Derived.Test.YtoijalagmmgkbaaGreatDoorX50
set_option linter.all false
set_option linter.defProp false
section
set_option maxRecDepth 1000000
namespace Go.Proofs.YtoijalagmmgkbaaGreatDoor.eT
open Go.ChangeShapes Go.WideShapes Go.ChangeAt Go.RowKit
theorem said:Rows.AnswerCountsSaid :=
 OpenClaim.holds_of_cond 9 Tryz.f9 rfl rfl rfl rfl rfl rfl rfl ⟨rfl,rfl,rfl,rfl,rfl⟩ rfl rfl rfl rfl rfl fnNamed Tryz.func9 closed inst wrap
  (λos a H enc _ F=>by rw[OpenClaim.pre_eq_preRow];exact lifted os a H enc F)
end Go.Proofs.YtoijalagmmgkbaaGreatDoor.eT
end
