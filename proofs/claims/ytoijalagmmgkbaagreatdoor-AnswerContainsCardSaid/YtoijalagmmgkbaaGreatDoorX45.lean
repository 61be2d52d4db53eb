/- The proof of a statement of the seat, part 45. -/
import Derived.Test.YtoijalagmmgkbaaGreatDoorX44
set_option linter.all false
set_option linter.defProp false
section
set_option maxRecDepth 1000000
namespace Go.Proofs.YtoijalagmmgkbaaGreatDoor.gW
open Go.ChangeShapes Go.WideShapes Go.ChangeAt Go.RowKit
theorem fnNamed:Tryz.pinned.checked.prog.funcNamed Rows.answerContainsRow.func=some 3:=by kernel_rfl
theorem wrap:Tryz.f3.isWrapper Tryz.pinned.checked.prog Rows.answerContainsRow.wrapper Rows.answerContainsRow.mainSum:=by unfold Func.isWrapper;first|(rw[if_pos (by decide+kernel)];kernel_rfl)|(rw[if_neg (by decide+kernel)];exact⟨rfl,rfl⟩)
theorem inst:Tryz.f3.isInstance Tryz.pinned.checked.prog Rows.answerContainsRow.origin Rows.answerContainsRow.targs:=(Sx.pT (by kernel_rfl))
theorem said:Rows.AnswerContainsSaid :=
 OpenClaim.holds_of_cond 3 Tryz.f3 rfl rfl rfl rfl rfl rfl rfl ⟨rfl,rfl,rfl,rfl,rfl⟩ rfl rfl rfl rfl rfl fnNamed Tryz.func3 closed inst wrap
  (λos a H enc _ F=>by rw[OpenClaim.pre_eq_preRow];exact lifted os a H enc F)
end Go.Proofs.YtoijalagmmgkbaaGreatDoor.gW
end
