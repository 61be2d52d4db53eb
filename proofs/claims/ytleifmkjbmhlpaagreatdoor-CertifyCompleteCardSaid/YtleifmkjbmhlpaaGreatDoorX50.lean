/- The proof of a statement of the seat, part 50. -/
import Derived.Test.YtleifmkjbmhlpaaGreatDoorX47
import Derived.Test.YtleifmkjbmhlpaaGreatDoorX48
import Derived.Test.YtleifmkjbmhlpaaGreatDoorX49
set_option linter.all false
set_option linter.defProp false
section
set_option maxRecDepth 1000000
namespace Go.Proofs.YtleifmkjbmhlpaaGreatDoor.certifyComplete
open Go.ChangeShapes Go.WideShapes Go.ChangeAt Go.RowKit
open Go.Proofs.YtleifmkjbmhlpaaGreatDoor.kC (kids full Xj own CE T3)
theorem aaW(H)(enc)(W)(base)(args)(ds gs:List (DataW H))(before)
  (a:∀(j:Nat) t v,Tryz.f7.params[j]? =some t->args[j]? =some v->Value.okWide Tryz.prog W .any base t v)
  (d:DataW.Whole enc Tryz.prog Tryz.f7.params.toList Rows.certifyCompleteSpec.vars false W args.toList ds gs before) (g:laidMetH Tryz.prog Rows.certifyCompleteRow.laid W):
  Calls Tryz.prog 7 args W λe f=> ∃v,e= .returned v/\Rows.certifyCompleteSpec.post enc Tryz.prog Tryz.f7 false true false false W args v f:=by
 have c:=d;obtain⟨p,q,hA,h,_,_,_⟩:=c;obtain⟨rfl,_⟩:=trodVars_none h;have b:=hA;rw[Tryz.params7]at b;obtain⟨k,l,m,d1,p0,n,_,i,_,_,_⟩:=trodAll_two b;subst i;refine(Sx.OT a hA g).mono λe f ⟨he,hk⟩=>?_
 refine⟨_,he,Sx.OL kids full (λt ht=>?_) rfl d hk (λ_ _ _=>?_) rfl rfl (ok_one (by kernel_rfl) rfl (okWide_bool_mk Tryz.underlying4 _))⟩
 ·rw[Tryz.params7]at ht;have o:=Sx.py Xj
  grind
 ·exact trodAll_cons_mk (shut_bool Tryz.underlying4 _) trodAll_mk0
theorem aad(os):laidMetH Tryz.prog Rows.certifyCompleteRow.laid ((CE 8000 os).forCall (λ_ _=>0) ⟨#[],T3,[]⟩).memory:=by
 rw[show Rows.certifyCompleteRow.laid=Rows.certifySmallRow.laid from rfl];exact kC.aad os
end Go.Proofs.YtleifmkjbmhlpaaGreatDoor.certifyComplete
end
