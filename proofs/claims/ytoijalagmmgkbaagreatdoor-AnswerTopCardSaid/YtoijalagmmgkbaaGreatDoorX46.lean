/- The proof of a statement of the seat, part 46. -/
import Derived.Test.YtoijalagmmgkbaaGreatDoorX45
set_option linter.all false
set_option linter.defProp false
section
set_option maxRecDepth 1000000
namespace Go.Proofs.YtoijalagmmgkbaaGreatDoor.zl
open Go.ChangeShapes Go.WideShapes Go.ChangeAt Go.RowKit
theorem fnNamed:Tryz.pinned.checked.prog.funcNamed Rows.answerTopRow.func=some 8:=by kernel_rfl
theorem wrap:Tryz.f8.isWrapper Tryz.pinned.checked.prog Rows.answerTopRow.wrapper Rows.answerTopRow.mainSum:=by unfold Func.isWrapper;first|(rw[if_pos (by decide+kernel)];kernel_rfl)|(rw[if_neg (by decide+kernel)];exact⟨rfl,rfl⟩)
theorem inst:Tryz.f8.isInstance Tryz.pinned.checked.prog Rows.answerTopRow.origin Rows.answerTopRow.targs:=(Sx.pT (by kernel_rfl))
theorem said:Rows.AnswerTopSaid :=
 OpenClaim.holds_of_cond 8 Tryz.f8 rfl rfl rfl rfl rfl rfl rfl ⟨rfl,rfl,rfl,rfl,rfl⟩ rfl rfl rfl rfl rfl fnNamed Tryz.func8 closed inst wrap
  (λos a H enc _ F=>by rw[OpenClaim.pre_eq_preRow];exact lifted os a H enc F)
end Go.Proofs.YtoijalagmmgkbaaGreatDoor.zl
end
