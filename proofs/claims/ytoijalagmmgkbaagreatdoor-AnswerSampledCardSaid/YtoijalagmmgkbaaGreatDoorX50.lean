/- Lemmas, part 50. -/
import Derived.Test.YtoijalagmmgkbaaGreatDoorX46
import Derived.Test.YtoijalagmmgkbaaGreatDoorX48
import Derived.Test.YtoijalagmmgkbaaGreatDoorX49
set_option linter.all false
set_option linter.defProp false
section
set_option maxRecDepth 1000000
namespace Go.Proofs.YtoijalagmmgkbaaGreatDoor.Bf
open Go.ChangeShapes Go.WideShapes Go.ChangeAt Go.RowKit
theorem said:Rows.AnswerSampledSaid :=
 OpenClaim.holds_of_cond 5 Tryz.f5 rfl rfl rfl rfl rfl rfl rfl ⟨rfl,rfl,rfl,rfl,rfl⟩ rfl rfl rfl rfl rfl fnNamed Tryz.func5 closed inst wrap
  (λos a H enc _ F=>by rw[OpenClaim.pre_eq_preRow];exact lifted os a H enc F)
end Go.Proofs.YtoijalagmmgkbaaGreatDoor.Bf
end
