/- The proof of a statement of the seat, part 49. -/
import Derived.Test.YtoijalagmmgkbaaGreatDoorX46
set_option linter.all false
set_option linter.defProp false
section
set_option maxRecDepth 1000000
namespace Go.Proofs.YtoijalagmmgkbaaGreatDoor.eT
open Go.ChangeShapes Go.WideShapes Go.ChangeAt Go.RowKit
theorem wrap:Tryz.f9.isWrapper Tryz.pinned.checked.prog Rows.answerCountsRow.wrapper Rows.answerCountsRow.mainSum:=by unfold Func.isWrapper;first|(rw[if_pos (by decide+kernel)];kernel_rfl)|(rw[if_neg (by decide+kernel)];exact⟨rfl,rfl⟩)
theorem inst:Tryz.f9.isInstance Tryz.pinned.checked.prog Rows.answerCountsRow.origin Rows.answerCountsRow.targs:=(of_decide_eq_true (by kernel_rfl))
theorem stand24:Tryz.prog.wantsStandIn 24=false:=by kernel_rfl
theorem stand25:Tryz.prog.wantsStandIn 25=false:=by kernel_rfl
theorem plain(f:FuncId)(fn:Func)(b:Tryz.pinned.checked.prog.funcNamed Rows.answerCountsRow.func=some f)(a:Tryz.pinned.checked.prog.funcs[f]? =some fn):
  true=Tryz.pinned.checked.prog.looks []/\∀(j:Nat) t,fn.params[j]? =some t->Tryz.pinned.checked.prog.wantsStandIn t=false:=by
 obtain rfl:f=9:=Option.some.inj (fnNamed.symm.trans b) |>.symm
 obtain rfl:fn=Tryz.f9:=(Option.some.inj (Tryz.func9.symm.trans a)).symm
 refine⟨looksNo,λj t ht=>?_⟩
 rw[Tryz.params9]at ht
 have:t=24∨t=25:=by simpa using Array.mem_of_getElem? ht
 rcases this with rfl|rfl
 ·exact stand24
 ·exact stand25
theorem wf:Rows.answerCountsRow.wfByText (OpenSpec.ofChange Rows.answerCountsSpec)=true:=by kernel_rfl
end Go.Proofs.YtoijalagmmgkbaaGreatDoor.eT
end
