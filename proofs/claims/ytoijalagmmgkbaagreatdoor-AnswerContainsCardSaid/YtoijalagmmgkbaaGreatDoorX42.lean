/- The proof of a statement of the seat, part 42. -/
import Derived.Test.YtoijalagmmgkbaaGreatDoorCards
import Derived.Test.YtoijalagmmgkbaaGreatDoorTie
import Derived.LaidMore
import Derived.LaidHandle
import Derived.OpenShut
import Derived.Deep.DeepHandedRow
import Derived.Deep.Slices
import Derived.Test.YtoijalagmmgkbaaGreatDoorX41
set_option linter.all false
set_option linter.defProp false
section
set_option maxRecDepth 100000
namespace Go.Proofs.YtoijalagmmgkbaaGreatDoor.gW
open Go.ChangeShapes Go.WideShapes Go.ChangeAt Go.RowKit
theorem kids:Kids Tryz.prog (· < Tryz.prog.types.size):=kids_rows (by kernel_rfl) (by kernel_rfl)
theorem full:∀{t e:TypeId},t<Tryz.prog.types.size->Tryz.prog.underlying t=some (.slice e)->0<Tryz.prog.cellsOf e:=λ{t e} h1 a=>slices_full_of Tryz.prog (by kernel_rfl) t e h1 a
theorem Xl:(decide (26<Tryz.prog.types.size))=true:=by kernel_rfl
theorem OZ(H:Type)(enc:TypeId×Value->H)(W:World)(a:Nat)(args:Array Value)(ds gs:List (DataW H))(before:List MemPlace)
  (b:∀(j:Nat) t v,Tryz.f3.params[j]? =some t->args[j]? =some v->Value.okWide Tryz.prog W .any a t v)
  (g:DataW.Whole enc Tryz.prog Tryz.f3.params.toList Rows.answerContainsSpec.vars false W args.toList ds gs before) (hL:laidMetH Tryz.prog Rows.answerContainsRow.laid W):
  Calls Tryz.prog 3 args W λe h=> ∃v,e= .returned v/\Rows.answerContainsSpec.post enc Tryz.prog Tryz.f3 false true false false W args v h:=by
 have d:=g
 obtain⟨p,q,hA,i,_,_,_⟩:=d
 obtain⟨rfl,_⟩:=trodVars_none i
 have c:=hA
 rw[Tryz.params3]at c
 obtain⟨l,m,n,o,d1,r,p0,s,u,_,k,_,_,_,_⟩:=trodAll_three c
 subst k
 refine(Sx.Ke b hA hL).mono λe h ⟨he,hk⟩=>?_
 refine⟨_,he,Sx.Ka kids full (λt ht=>?_) rfl g hk (λ_ _ _=>?_) rfl rfl (ok_one (by kernel_rfl) rfl (okWide_bool_mk Tryz.underlying4 _))⟩
 ·rw[Tryz.params3]at ht
  have f:=Sx.pT Xl
  have:t=24∨t=25∨t=26:=by simpa using ht
  rcases this with rfl|rfl|rfl
  ·exact Nat.lt_trans (by decide) f
  ·exact Nat.lt_trans (by decide) f
  ·exact f
 ·exact trodAll_cons_mk (shut_bool Tryz.underlying4 _) trodAll_mk0
end Go.Proofs.YtoijalagmmgkbaaGreatDoor.gW
end
