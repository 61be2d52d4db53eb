/- Lemmas, part 49. -/
import Derived.Test.YtoijalagmmgkbaaGreatDoorX44
import Derived.Test.YtoijalagmmgkbaaGreatDoorX45
set_option linter.all false
set_option linter.defProp false
section
set_option maxRecDepth 1000000
namespace Go.Proofs.YtoijalagmmgkbaaGreatDoor.Bf
open Go.ChangeShapes Go.WideShapes Go.ChangeAt Go.RowKit
theorem abn(H:Type)(enc:TypeId×Value->H)(W:World)(a:Nat)(args:Array Value)(ds gs:List (DataW H))(before:List MemPlace)
  (b:∀(j:Nat) t v,Tryz.f5.params[j]? =some t->args[j]? =some v->Value.okWide Tryz.prog W .any a t v)
  (g:DataW.Whole enc Tryz.prog Tryz.f5.params.toList Rows.answerSampledSpec.vars false W args.toList ds gs before) (hL:laidMetH Tryz.prog Rows.answerSampledRow.laid W):
  Calls Tryz.prog 5 args W λe h=> ∃v,e= .returned v/\Rows.answerSampledSpec.post enc Tryz.prog Tryz.f5 false true false false W args v h:=by
 have d:=g
 obtain⟨p,q,hA,hV,_,_,_⟩:=d
 obtain⟨rfl,_⟩:=trodVars_none hV
 have c:=hA
 rw[Tryz.params5]at c
 obtain⟨k,l,m,n,d1,o,p0,r,s,_,i,_,_,_,_⟩:=trodAll_three c
 subst i
 refine(Sx.adW b hA hL).mono λe h ⟨he,hk⟩=>?_
 refine⟨_,he,Sx.aaz kids full (λt ht=>?_) rfl g hk (λ_ _ _=>?_) rfl rfl (ok_one (by kernel_rfl) rfl (okWide_bool_mk Tryz.underlying4 _))⟩
 ·rw[Tryz.params5]at ht
  have f:=of_decide_eq_true acn
  have:t=24∨t=25∨t=26:=by simpa using ht
  rcases this with rfl|rfl|rfl
  ·exact Nat.lt_trans (by decide) f
  ·exact Nat.lt_trans (by decide) f
  ·exact f
 ·exact trodAll_cons_mk (shut_bool Tryz.underlying4 _) trodAll_mk0
theorem reads(os:Os){H:Type}(enc:TypeId×Value->H):∃a,DataW.whole enc Tryz.prog ((aa6 8000 os).forCall (λ_ _=>0) ⟨#[],aa7,[]⟩).memory Tryz.f5.params.toList Rows.answerSampledSpec.vars false aa7.toList 8=some ([.agg [.lit (.int .i64 0),.nil,.lit (.int .i64 0),.lit (.int .i64 0)],.nil,.nil],[],a):=
 ⟨[],by kernel_rfl⟩
theorem lifted(os:Os)(a:os.Started)(H:Type)(enc:TypeId×Value->H)(F:Stop.Interp):
  ReturnsInHanded {} Tryz.checked os 5 .any ((OpenSpec.ofChange Rows.answerSampledSpec).preRow enc Tryz.prog Tryz.f5 Rows.answerSampledRow.domain false Rows.answerSampledRow.laid) (((OpenSpec.ofChange Rows.answerSampledSpec).at F).post enc Tryz.prog Tryz.f5 false true false false):=by
 obtain⟨d,hx⟩:=reads os enc
 refine returnsInHanded_of_row (C:=Tryz.checked) (s:=OpenSpec.ofChange Rows.answerSampledSpec) own a (by kernel_rfl) Tryz.func5
  (witness_row_at (enc:=enc) (C:=Tryz.checked) false (aa6 8000 os) aa7 rfl (by kernel_rfl) (by kernel_rfl) (by kernel_rfl)
   (OpenSpec.preRow_of_cond 8 hx (by kernel_rfl) (λk e=>by cases e) (by kernel_rfl) (abI os))) ?_
 intro W b args ds gs before c f _ _ _ hL _ _
 exact abn H enc W b args ds gs before c f hL
end Go.Proofs.YtoijalagmmgkbaaGreatDoor.Bf
end
