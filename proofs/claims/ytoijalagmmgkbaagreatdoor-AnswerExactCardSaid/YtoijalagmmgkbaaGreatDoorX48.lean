/- The proof of a statement of the seat, part 48. -/
import Derived.Test.YtoijalagmmgkbaaGreatDoorX47
set_option linter.all false
set_option linter.defProp false
section
set_option maxRecDepth 1000000
namespace Go.Proofs.YtoijalagmmgkbaaGreatDoor.ob
open Go.ChangeShapes Go.WideShapes Go.ChangeAt Go.RowKit
theorem fnNamed:Tryz.pinned.checked.prog.funcNamed Rows.answerExactRow.func=some 4:=by kernel_rfl
theorem wrap:Tryz.f4.isWrapper Tryz.pinned.checked.prog Rows.answerExactRow.wrapper Rows.answerExactRow.mainSum:=by unfold Func.isWrapper;first|(rw[if_pos (by decide+kernel)];kernel_rfl)|(rw[if_neg (by decide+kernel)];exact⟨rfl,rfl⟩)
theorem inst:Tryz.f4.isInstance Tryz.pinned.checked.prog Rows.answerExactRow.origin Rows.answerExactRow.targs:=(Sx.pT (by kernel_rfl))
theorem said:Rows.AnswerExactSaid :=
 OpenClaim.holds_of_cond 4 Tryz.f4 rfl rfl rfl rfl rfl rfl rfl ⟨rfl,rfl,rfl,rfl,rfl⟩ rfl rfl rfl rfl rfl fnNamed Tryz.func4 closed inst wrap
  (λos a H enc _ F=>by rw[OpenClaim.pre_eq_preRow];exact lifted os a H enc F)
end Go.Proofs.YtoijalagmmgkbaaGreatDoor.ob
end
