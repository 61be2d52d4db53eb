/- Lemmas, part 46. -/
import Derived.Test.YtoijalagmmgkbaaGreatDoorX45
set_option linter.all false
set_option linter.defProp false
section
set_option maxRecDepth 1000000
namespace Go.Proofs.YtoijalagmmgkbaaGreatDoor.Bf
open Go.ChangeShapes Go.WideShapes Go.ChangeAt Go.RowKit
theorem andT{a b:Bool}(h:a=true)(k:b=true):(a&&b)=true:=by rw[h,k];rfl
set_option maxHeartbeats 0 in
theorem closed:joinedFacts Tryz.pinned.checked.prog 5 Tryz.f5 (OpenSpec.ofChange Rows.answerSampledSpec).bare Rows.answerSampledRow=true:=by
 unfold joinedFacts
 repeat' (with_reducible refine andT ?_ ?_)
 all_goals as_aux_lemma=>kernel_rfl
end Go.Proofs.YtoijalagmmgkbaaGreatDoor.Bf
end
