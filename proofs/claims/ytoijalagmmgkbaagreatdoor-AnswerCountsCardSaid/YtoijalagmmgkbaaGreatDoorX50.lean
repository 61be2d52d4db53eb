/- The proof of a statement of the seat, part 50. -/
import Derived.Test.YtoijalagmmgkbaaGreatDoorX45
import Derived.Test.YtoijalagmmgkbaaGreatDoorX46
set_option linter.all false
set_option linter.defProp false
section
set_option maxRecDepth 1000000
namespace Go.Proofs.YtoijalagmmgkbaaGreatDoor.eT
open Go.ChangeShapes Go.WideShapes Go.ChangeAt Go.RowKit
theorem OZ(H:Type)(enc:TypeId×Value->H)(W:World)(a:Nat)(args:Array Value)(ds gs:List (DataW H))(before:List MemPlace)
  (b:∀(j:Nat) t v,Tryz.f9.params[j]? =some t->args[j]? =some v->Value.okWide Tryz.prog W .any a t v)
  (f:DataW.Whole enc Tryz.prog Tryz.f9.params.toList Rows.answerCountsSpec.vars false W args.toList ds gs before) (hL:laidMetH Tryz.prog Rows.answerCountsRow.laid W):
  Calls Tryz.prog 9 args W λe g=> ∃v,e= .returned v/\Rows.answerCountsSpec.post enc Tryz.prog Tryz.f9 false true false false W args v g:=by
 have d:=f
 obtain⟨p,q,hA,i,_,_,_⟩:=d
 obtain⟨rfl,_⟩:=trodVars_none i
 have c:=hA
 rw[Tryz.params9]at c
 obtain⟨l,m,n,d1,p0,o,_,k,_,_,_⟩:=trodAll_two c
 subst k
 refine(Sx.OK b hA hL).mono λe g ⟨he,hk⟩=>?_
 refine⟨_,he,Sx.Ka kids full (λt ht=>?_) rfl f hk (λ_ _ _=>?_) rfl rfl (ok_one (by kernel_rfl) rfl (okWide_bool_mk Tryz.underlying4 _))⟩
 ·rw[Tryz.params9]at ht
  have h:=of_decide_eq_true Xl
  have:t=24∨t=25:=by simpa using ht
  rcases this with rfl|rfl
  ·exact Nat.lt_trans (by decide) h
  ·exact h
 ·exact trodAll_cons_mk (shut_bool Tryz.underlying4 _) trodAll_mk0
theorem reads(os:Os){H:Type}(enc:TypeId×Value->H):∃a,DataW.whole enc Tryz.prog ((zS 8000 os).forCall (λ_ _=>0) ⟨#[],OH,[]⟩).memory Tryz.f9.params.toList Rows.answerCountsSpec.vars false OH.toList 8=some ([.agg [.lit (.int .i64 0),.nil,.lit (.int .i64 0),.lit (.int .i64 0)],.nil],[],a):=
 ⟨[],by kernel_rfl⟩
theorem lifted(os:Os)(a:os.Started)(H:Type)(enc:TypeId×Value->H)(F:Stop.Interp):
  ReturnsInHanded {} Tryz.checked os 9 .any ((OpenSpec.ofChange Rows.answerCountsSpec).preRow enc Tryz.prog Tryz.f9 Rows.answerCountsRow.domain false Rows.answerCountsRow.laid) (((OpenSpec.ofChange Rows.answerCountsSpec).at F).post enc Tryz.prog Tryz.f9 false true false false):=by
 obtain⟨d,hx⟩:=reads os enc
 refine returnsInHanded_of_row (C:=Tryz.checked) (s:=OpenSpec.ofChange Rows.answerCountsSpec) own a (by kernel_rfl) Tryz.func9
  (witness_row_at (enc:=enc) (C:=Tryz.checked) false (zS 8000 os) OH rfl (by kernel_rfl) (by kernel_rfl) (by kernel_rfl)
   (OpenSpec.preRow_of_cond 8 hx (by kernel_rfl) (λk e=>by cases e) (by kernel_rfl) (RH os))) ?_
 intro W b args ds gs before c f _ _ _ hL _ _
 exact OZ H enc W b args ds gs before c f hL
end Go.Proofs.YtoijalagmmgkbaaGreatDoor.eT
end
