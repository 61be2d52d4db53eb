/- Lemmas, part 48. -/
import Derived.Test.YtoijalagmmgkbaaGreatDoorX45
set_option linter.all false
set_option linter.defProp false
section
set_option maxRecDepth 1000000
namespace Go.Proofs.YtoijalagmmgkbaaGreatDoor.Bf
open Go.ChangeShapes Go.WideShapes Go.ChangeAt Go.RowKit
theorem wrap:Tryz.f5.isWrapper Tryz.pinned.checked.prog Rows.answerSampledRow.wrapper Rows.answerSampledRow.mainSum:=by unfold Func.isWrapper;first|(rw[if_pos (by decide+kernel)];kernel_rfl)|(rw[if_neg (by decide+kernel)];exact⟨rfl,rfl⟩)
theorem inst:Tryz.f5.isInstance Tryz.pinned.checked.prog Rows.answerSampledRow.origin Rows.answerSampledRow.targs:=(of_decide_eq_true (by kernel_rfl))
theorem stand24:Tryz.prog.wantsStandIn 24=false:=by kernel_rfl
theorem stand25:Tryz.prog.wantsStandIn 25=false:=by kernel_rfl
theorem stand26:Tryz.prog.wantsStandIn 26=false:=by kernel_rfl
theorem plain(f:FuncId)(fn:Func)(b:Tryz.pinned.checked.prog.funcNamed Rows.answerSampledRow.func=some f)(a:Tryz.pinned.checked.prog.funcs[f]? =some fn):
  true=Tryz.pinned.checked.prog.looks []/\∀(j:Nat) t,fn.params[j]? =some t->Tryz.pinned.checked.prog.wantsStandIn t=false:=by
 obtain rfl:f=5:=Option.some.inj (fnNamed.symm.trans b) |>.symm
 obtain rfl:fn=Tryz.f5:=(Option.some.inj (Tryz.func5.symm.trans a)).symm
 refine⟨looksNo,λj t ht=>?_⟩
 rw[Tryz.params5]at ht
 have:t=24∨t=25∨t=26:=by simpa using Array.mem_of_getElem? ht
 rcases this with rfl|rfl|rfl
 ·exact stand24
 ·exact stand25
 ·exact stand26
theorem wf:Rows.answerSampledRow.wfByText (OpenSpec.ofChange Rows.answerSampledSpec)=true:=by kernel_rfl
end Go.Proofs.YtoijalagmmgkbaaGreatDoor.Bf
end
