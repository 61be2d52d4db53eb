/- The proof of a statement of the seat, part 50. -/
import Derived.Test.YtoijalagmmgkbaaGreatDoorX45
import Derived.Test.YtoijalagmmgkbaaGreatDoorX46
set_option linter.all false
set_option linter.defProp false
section
set_option maxRecDepth 1000000
namespace Go.Proofs.YtoijalagmmgkbaaGreatDoor.ao
open Go.ChangeShapes Go.WideShapes Go.ChangeAt Go.RowKit
theorem cb(H:Type)(enc:TypeId×Value->H)(W:World)(a:Nat)(args:Array Value)(ds gs:List (DataW H))(before:List MemPlace)
  (b:∀(j:Nat) t v,Tryz.f7.params[j]? =some t->args[j]? =some v->Value.okWide Tryz.prog W .any a t v)
  (g:DataW.Whole enc Tryz.prog Tryz.f7.params.toList Rows.answerNarrowsSpec.vars false W args.toList ds gs before) (hL:laidMetH Tryz.prog Rows.answerNarrowsRow.laid W):
  Calls Tryz.prog 7 args W λe h=> ∃v,e= .returned v/\Rows.answerNarrowsSpec.post enc Tryz.prog Tryz.f7 false true false false W args v h:=by
 have d:=g
 obtain⟨p,q,hA,i,_,_,_⟩:=d
 obtain⟨rfl,_⟩:=trodVars_none i
 have c:=hA
 rw[Tryz.params7]at c
 obtain⟨l,m,n,o,r,s,u,d1,w,x,y,C,_,k,_⟩:=Sx.Oe c
 subst k
 refine(Sx.V2 b hA hL).mono λe h ⟨he,hk⟩=>?_
 refine⟨_,he,Sx.Ka kids full (λt ht=>?_) rfl g hk (λ_ _ _=>?_) rfl rfl (ok_one (by kernel_rfl) rfl (okWide_bool_mk Tryz.underlying4 _))⟩
 ·rw[Tryz.params7]at ht
  have f:=Sx.pT eK
  have:t=24∨t=25∨t=3:=by simpa using ht
  rcases this with rfl|rfl|rfl
  ·exact Nat.lt_trans (by decide) f
  ·exact f
  ·exact Nat.lt_trans (by decide) f
 ·exact trodAll_cons_mk (shut_bool Tryz.underlying4 _) trodAll_mk0
theorem reads(os:Os){H:Type}(enc:TypeId×Value->H):∃a,DataW.whole enc Tryz.prog ((aE 8000 os).forCall (λ_ _=>0) ⟨#[],bq,[]⟩).memory Tryz.f7.params.toList Rows.answerNarrowsSpec.vars false bq.toList 8=some ([.agg [.lit (.int .i64 0),.nil,.lit (.int .i64 0),.lit (.int .i64 0)],.nil,.lit (.int .i64 0),.lit (.int .i64 0),.lit (.int .i64 0),.lit (.int .i64 0)],[],a):=
 ⟨[],by kernel_rfl⟩
theorem lifted(os:Os)(a:os.Started)(H:Type)(enc:TypeId×Value->H)(F:Stop.Interp):
  ReturnsInHanded {} Tryz.checked os 7 .any ((OpenSpec.ofChange Rows.answerNarrowsSpec).preRow enc Tryz.prog Tryz.f7 Rows.answerNarrowsRow.domain false Rows.answerNarrowsRow.laid) (((OpenSpec.ofChange Rows.answerNarrowsSpec).at F).post enc Tryz.prog Tryz.f7 false true false false):=by
 obtain⟨d,hx⟩:=reads os enc
 refine returnsInHanded_of_row (C:=Tryz.checked) (s:=OpenSpec.ofChange Rows.answerNarrowsSpec) own a (by kernel_rfl) Tryz.func7
  (witness_row_at (enc:=enc) (C:=Tryz.checked) false (aE 8000 os) bq rfl (by kernel_rfl) (by kernel_rfl) (by kernel_rfl)
   (OpenSpec.preRow_of_cond 8 hx (by kernel_rfl) (λk e=>by cases e) (by kernel_rfl) (ep os))) ?_
 intro W b args ds gs before c f _ _ _ hL _ _
 exact cb H enc W b args ds gs before c f hL
end Go.Proofs.YtoijalagmmgkbaaGreatDoor.ao
end
