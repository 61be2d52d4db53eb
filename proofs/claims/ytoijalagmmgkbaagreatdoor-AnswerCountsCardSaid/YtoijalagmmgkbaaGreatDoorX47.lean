/- The proof of a statement of the seat, part 47. -/
import Derived.Test.YtoijalagmmgkbaaGreatDoorX46
set_option linter.all false
set_option linter.defProp false
section
set_option maxRecDepth 1000000
namespace Go.Proofs.YtoijalagmmgkbaaGreatDoor.eT
open Go.ChangeShapes Go.WideShapes Go.ChangeAt Go.RowKit
theorem andT{a b:Bool}(h:a=true)(k:b=true):(a&&b)=true:=by rw[h,k];rfl
set_option maxHeartbeats 0 in
theorem closed:joinedFacts Tryz.pinned.checked.prog 9 Tryz.f9 (OpenSpec.ofChange Rows.answerCountsSpec).bare Rows.answerCountsRow=true:=by
 unfold joinedFacts
 repeat' (with_reducible refine andT ?_ ?_)
 all_goals as_aux_lemma=>kernel_rfl
end Go.Proofs.YtoijalagmmgkbaaGreatDoor.eT
end
