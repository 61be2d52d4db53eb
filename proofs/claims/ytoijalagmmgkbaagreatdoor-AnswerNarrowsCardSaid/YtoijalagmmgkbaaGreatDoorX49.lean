/- The proof of a statement of the seat, part 49. -/
import Derived.Test.YtoijalagmmgkbaaGreatDoorX46
set_option linter.all false
set_option linter.defProp false
section
set_option maxRecDepth 1000000
namespace Go.Proofs.YtoijalagmmgkbaaGreatDoor.ao
open Go.ChangeShapes Go.WideShapes Go.ChangeAt Go.RowKit
theorem wrap:Tryz.f7.isWrapper Tryz.pinned.checked.prog Rows.answerNarrowsRow.wrapper Rows.answerNarrowsRow.mainSum:=by unfold Func.isWrapper;first|(rw[if_pos (by decide+kernel)];kernel_rfl)|(rw[if_neg (by decide+kernel)];exact⟨rfl,rfl⟩)
theorem inst:Tryz.f7.isInstance Tryz.pinned.checked.prog Rows.answerNarrowsRow.origin Rows.answerNarrowsRow.targs:=(Sx.pT (by kernel_rfl))
theorem stand24:Tryz.prog.wantsStandIn 24=false:=by kernel_rfl
theorem stand25:Tryz.prog.wantsStandIn 25=false:=by kernel_rfl
theorem stand3:Tryz.prog.wantsStandIn 3=false:=by kernel_rfl
theorem plain(f:FuncId)(fn:Func)(b:Tryz.pinned.checked.prog.funcNamed Rows.answerNarrowsRow.func=some f)(a:Tryz.pinned.checked.prog.funcs[f]? =some fn):
  true=Tryz.pinned.checked.prog.looks []/\∀(j:Nat) t,fn.params[j]? =some t->Tryz.pinned.checked.prog.wantsStandIn t=false:=by
 obtain rfl:f=7:=Option.some.inj (fnNamed.symm.trans b) |>.symm
 obtain rfl:fn=Tryz.f7:=(Option.some.inj (Tryz.func7.symm.trans a)).symm
 refine⟨looksNo,λj t ht=>?_⟩
 rw[Tryz.params7]at ht
 have:t=24∨t=25∨t=3:=by simpa using Array.mem_of_getElem? ht
 rcases this with rfl|rfl|rfl
 ·exact stand24
 ·exact stand25
 ·exact stand3
theorem wf:Rows.answerNarrowsRow.wfByText (OpenSpec.ofChange Rows.answerNarrowsSpec)=true:=by kernel_rfl
end Go.Proofs.YtoijalagmmgkbaaGreatDoor.ao
end
