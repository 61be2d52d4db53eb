/- The proof of a statement of the seat, part 47. -/
import Derived.Test.YtoijalagmmgkbaaGreatDoorX46
set_option linter.all false
set_option linter.defProp false
section
set_option maxRecDepth 1000000
namespace Go.Proofs.YtoijalagmmgkbaaGreatDoor.ob
open Go.ChangeShapes Go.WideShapes Go.ChangeAt Go.RowKit
theorem reads(os:Os){H:Type}(enc:TypeId×Value->H):∃a,DataW.whole enc Tryz.prog ((laidWorld 8000 os).forCall (λ_ _=>0) ⟨#[],wargs,[]⟩).memory Tryz.f4.params.toList Rows.answerExactSpec.vars false wargs.toList 8=some ([.agg [.lit (.int .i64 0),.nil,.lit (.int .i64 0),.lit (.int .i64 0)],.nil],[],a):=
 ⟨[],by kernel_rfl⟩
theorem lifted(os:Os)(a:os.Started)(H:Type)(enc:TypeId×Value->H)(F:Stop.Interp):
  ReturnsInHanded {} Tryz.checked os 4 .any ((OpenSpec.ofChange Rows.answerExactSpec).preRow enc Tryz.prog Tryz.f4 Rows.answerExactRow.domain false Rows.answerExactRow.laid) (((OpenSpec.ofChange Rows.answerExactSpec).at F).post enc Tryz.prog Tryz.f4 false true false false):=by
 obtain⟨d,hx⟩:=reads os enc
 refine returnsInHanded_of_row (C:=Tryz.checked) (s:=OpenSpec.ofChange Rows.answerExactSpec) own a (by kernel_rfl) Tryz.func4
  (witness_row_at (enc:=enc) (C:=Tryz.checked) false (laidWorld 8000 os) wargs rfl (by kernel_rfl) (by kernel_rfl) (by kernel_rfl)
   (OpenSpec.preRow_of_cond 8 hx (by kernel_rfl) (λk e=>by cases e) (by kernel_rfl) (laid_met os))) ?_
 intro W b args ds gs before c f _ _ _ hL _ _
 exact OZ H enc W b args ds gs before c f hL
theorem andT{a b:Bool}(h:a=true)(k:b=true):(a&&b)=true:=by rw[h,k];rfl
set_option maxHeartbeats 0 in
theorem closed:joinedFacts Tryz.pinned.checked.prog 4 Tryz.f4 (OpenSpec.ofChange Rows.answerExactSpec).bare Rows.answerExactRow=true:=by
 unfold joinedFacts
 repeat' (with_reducible refine andT ?_ ?_)
 all_goals as_aux_lemma=>kernel_rfl
end Go.Proofs.YtoijalagmmgkbaaGreatDoor.ob
end
