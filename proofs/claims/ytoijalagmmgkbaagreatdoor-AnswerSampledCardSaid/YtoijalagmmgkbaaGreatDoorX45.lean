/- Lemmas, part 45. -/
import Derived.Test.YtoijalagmmgkbaaGreatDoorCards
import Derived.Test.YtoijalagmmgkbaaGreatDoorTie
import Derived.LaidMore
import Derived.LaidHandle
import Derived.OpenShut
import Derived.Deep.DeepHandedRow
import Derived.Deep.Slices
import Derived.ReadAgain
import Derived.Test.YtoijalagmmgkbaaGreatDoorX01
set_option linter.all false
set_option linter.defProp false
section
set_option maxRecDepth 1000000
namespace Go.Proofs.YtoijalagmmgkbaaGreatDoor.Bf
open Go.ChangeShapes Go.WideShapes Go.ChangeAt Go.RowKit
theorem kids:Kids Tryz.prog (· < Tryz.prog.types.size):=kids_rows (by kernel_rfl) (by kernel_rfl)
theorem full:∀{t e:TypeId},t<Tryz.prog.types.size->Tryz.prog.underlying t=some (.slice e)->0<Tryz.prog.cellsOf e:=λ{t e} h1 a=>slices_full_of Tryz.prog (by kernel_rfl) t e h1 a
theorem acn:(decide (26<Tryz.prog.types.size))=true:=by kernel_rfl
theorem own:ownKnob Tryz.prog.godebug=none:=by kernel_rfl
def aa7:Array Value := #[.agg #[.int .i64 0,.slice none 0 0,.int .i64 0,.int .i64 0],.slice none 0 0,.slice none 0 0]
noncomputable def aa6(n:Nat)(os:Os):World :=
 {World.doorLaid Tryz.prog n os with heap:=(World.doorLaid Tryz.prog n os).heap.modify 10 λ
   | .cells _ t fr=> .cells (Pinned.utf8FirstZ.map λ(a:Nat)=>Value.int .u8 (Int.ofNat a)).toArray t fr
   |o=>o}
theorem abI(os:Os):laidMetH Tryz.prog Rows.answerSampledRow.laid ((aa6 8000 os).forCall (λ_ _=>0) ⟨#[],aa7,[]⟩).memory :=
 laidMetH_of_parts3 (fuel:=8) (laidMet_of_run' 8 (by kernel_rfl) (by kernel_rfl)) (by kernel_rfl) (by kernel_rfl)
theorem fnNamed:Tryz.pinned.checked.prog.funcNamed Rows.answerSampledRow.func=some 5:=by kernel_rfl
theorem looksNo:true=Tryz.pinned.checked.prog.looks []:=by kernel_rfl
end Go.Proofs.YtoijalagmmgkbaaGreatDoor.Bf
end
