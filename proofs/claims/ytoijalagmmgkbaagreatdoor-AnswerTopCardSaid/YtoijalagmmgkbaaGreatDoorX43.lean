/- The proof of a statement of the seat, part 43. -/
import Derived.Test.YtoijalagmmgkbaaGreatDoorCards
import Derived.Test.YtoijalagmmgkbaaGreatDoorTie
import Derived.Carry
import Derived.LaidMore
import Derived.LaidHandle
import Derived.OpenShut
import Derived.Deep.DeepHandedRow
import Derived.Deep.Slices
import Derived.Test.YtoijalagmmgkbaaGreatDoorX42
set_option linter.all false
set_option linter.defProp false
section
set_option maxRecDepth 100000
namespace Go.Proofs.YtoijalagmmgkbaaGreatDoor.zl
open Go.ChangeShapes Go.WideShapes Go.ChangeAt Go.RowKit
theorem kids:Kids Tryz.prog (· < Tryz.prog.types.size):=kids_rows (by kernel_rfl) (by kernel_rfl)
theorem full:∀{t e:TypeId},t<Tryz.prog.types.size->Tryz.prog.underlying t=some (.slice e)->0<Tryz.prog.cellsOf e:=λ{t e} h1 a=>slices_full_of Tryz.prog (by kernel_rfl) t e h1 a
theorem Xl:(decide (26<Tryz.prog.types.size))=true:=by kernel_rfl
theorem OZ(H:Type)(enc:TypeId×Value->H)(W:World)(a:Nat)(args:Array Value)(ds gs:List (DataW H))(before:List MemPlace)
  (b:∀(j:Nat) t v,Tryz.f8.params[j]? =some t->args[j]? =some v->Value.okWide Tryz.prog W .any a t v)
  (g:DataW.Whole enc Tryz.prog Tryz.f8.params.toList Rows.answerTopSpec.vars false W args.toList ds gs before) (hL:laidMetH Tryz.prog Rows.answerTopRow.laid W):
  Calls Tryz.prog 8 args W λe h=> ∃v,e= .returned v/\Rows.answerTopSpec.post enc Tryz.prog Tryz.f8 false true false false W args v h:=by
 have f:=g
 obtain⟨p,q,hA,i,_,_,_⟩:=f
 obtain⟨rfl,_⟩:=trodVars_none i
 have c:=hA
 rw[Tryz.params8]at c
 obtain⟨l,m,n,o,r,d1,s,u,p0,w,x,y,_,k,_,_,_,_,_⟩:=trodAll_four c
 subst k
 refine(Sx.TD b hA hL).mono λe h ⟨he,hk⟩=>?_
 refine⟨_,he,Sx.Ka kids full (λt ht=>?_) rfl g hk (λ_ _ _=>?_) rfl rfl (ok_one (by kernel_rfl) rfl (okWide_bool_mk Tryz.underlying4 _))⟩
 ·rw[Tryz.params8]at ht
  have d:=Sx.pT Xl
  have:t=24∨t=25∨t=26∨t=3:=by simpa using ht
  rcases this with rfl|rfl|rfl|rfl
  ·exact Nat.lt_trans (by decide) d
  ·exact Nat.lt_trans (by decide) d
  ·exact d
  ·exact Nat.lt_trans (by decide) d
 ·exact trodAll_cons_mk (shut_bool Tryz.underlying4 _) trodAll_mk0
end Go.Proofs.YtoijalagmmgkbaaGreatDoor.zl
end
