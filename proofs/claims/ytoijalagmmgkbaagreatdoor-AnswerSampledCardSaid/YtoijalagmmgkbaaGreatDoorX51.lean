/- The proof of a statement of the seat: its end. For every input. -/
import Derived.Test.YtoijalagmmgkbaaGreatDoorX47
import Derived.Test.YtoijalagmmgkbaaGreatDoorX50
set_option linter.all false
set_option linter.defProp false
section
set_option maxRecDepth 1000000
namespace Go.Proofs.YtoijalagmmgkbaaGreatDoor.Bf
open Go.ChangeShapes Go.WideShapes Go.ChangeAt Go.RowKit
theorem card:Rows.AnswerSampledCardSaid :=
 Claim7.holds_tied_plain_at .later [] _ _ _ _ said (λ_ h=>by cases h) wf (λ_ h=>by cases h) answerSampled_row_tie rfl ⟨rfl,rfl⟩ (by kernel_rfl) rfl plain goes
end Go.Proofs.YtoijalagmmgkbaaGreatDoor.Bf
end
