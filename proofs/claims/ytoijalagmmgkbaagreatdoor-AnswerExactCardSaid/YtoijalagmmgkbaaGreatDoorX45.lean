/- The proof of a statement of the seat, part 45. -/
import Derived.Test.YtoijalagmmgkbaaGreatDoorCards
import Derived.Test.YtoijalagmmgkbaaGreatDoorTie
import Derived.LaidMore
import Derived.LaidHandle
import Derived.OpenShut
import Derived.Deep.DeepHandedRow
import Derived.Deep.Slices
import Derived.Test.YtoijalagmmgkbaaGreatDoorX44
set_option linter.all false
set_option linter.defProp false
section
set_option maxRecDepth 100000
namespace Go.Proofs.YtoijalagmmgkbaaGreatDoor.ob
open Go.ChangeShapes Go.WideShapes Go.ChangeAt Go.RowKit
theorem kids:Kids Tryz.prog (· < Tryz.prog.types.size):=kids_rows (by kernel_rfl) (by kernel_rfl)
theorem full:∀{t e:TypeId},t<Tryz.prog.types.size->Tryz.prog.underlying t=some (.slice e)->0<Tryz.prog.cellsOf e:=λ{t e} h1 a=>slices_full_of Tryz.prog (by kernel_rfl) t e h1 a
theorem Xl:(decide (25<Tryz.prog.types.size))=true:=by kernel_rfl
theorem OZ(H:Type)(enc:TypeId×Value->H)(W:World)(a:Nat)(args:Array Value)(ds gs:List (DataW H))(before:List MemPlace)
  (b:∀(j:Nat) t v,Tryz.f4.params[j]? =some t->args[j]? =some v->Value.okWide Tryz.prog W .any a t v)
  (f:DataW.Whole enc Tryz.prog Tryz.f4.params.toList Rows.answerExactSpec.vars false W args.toList ds gs before) (hL:laidMetH Tryz.prog Rows.answerExactRow.laid W):
  Calls Tryz.prog 4 args W λe g=> ∃v,e= .returned v/\Rows.answerExactSpec.post enc Tryz.prog Tryz.f4 false true false false W args v g:=by
 have d:=f
 obtain⟨p,q,hA,i,_,_,_⟩:=d
 obtain⟨rfl,_⟩:=trodVars_none i
 have c:=hA
 rw[Tryz.params4]at c
 obtain⟨l,m,n,d1,p0,o,_,k,_,_,_⟩:=trodAll_two c
 subst k
 refine(Sx.TP b hA hL).mono λe g ⟨he,hk⟩=>?_
 refine⟨_,he,Sx.Ka kids full (λt ht=>?_) rfl f hk (λ_ _ _=>?_) rfl rfl (ok_one (by kernel_rfl) rfl (okWide_bool_mk Tryz.underlying4 _))⟩
 ·rw[Tryz.params4]at ht
  have h:=Sx.pT Xl
  have:t=24∨t=25:=by simpa using ht
  rcases this with rfl|rfl
  ·exact Nat.lt_trans (by decide) h
  ·exact h
 ·exact trodAll_cons_mk (shut_bool Tryz.underlying4 _) trodAll_mk0
end Go.Proofs.YtoijalagmmgkbaaGreatDoor.ob
end
