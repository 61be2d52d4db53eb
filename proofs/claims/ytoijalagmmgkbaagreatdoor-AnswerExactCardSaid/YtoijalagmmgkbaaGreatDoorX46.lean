/- The proof of a statement of the seat, part 46. -/
import Derived.Test.YtoijalagmmgkbaaGreatDoorX45
set_option linter.all false
set_option linter.defProp false
section
set_option maxRecDepth 1000000
namespace Go.Proofs.YtoijalagmmgkbaaGreatDoor.ob
open Go.ChangeShapes Go.WideShapes Go.ChangeAt Go.RowKit
theorem own:ownKnob Tryz.prog.godebug=none:=by kernel_rfl
def wargs:Array Value := #[.agg #[.int .i64 0,.slice none 0 0,.int .i64 0,.int .i64 0],.slice none 0 0]
noncomputable def laidWorld(n:Nat)(os:Os):World :=
 {World.doorLaid Tryz.prog n os with heap:=(World.doorLaid Tryz.prog n os).heap.modify 10 λ
   | .cells _ t fr=> .cells (Pinned.utf8FirstZ.map λ(a:Nat)=>Value.int .u8 (Int.ofNat a)).toArray t fr
   |o=>o}
theorem laid_met(os:Os):laidMetH Tryz.prog Rows.answerExactRow.laid ((laidWorld 8000 os).forCall (λ_ _=>0) ⟨#[],wargs,[]⟩).memory :=
 laidMetH_of_parts3 (fuel:=8) (laidMet_of_run' 8 (by kernel_rfl) (by kernel_rfl)) (by kernel_rfl) (by kernel_rfl)
end Go.Proofs.YtoijalagmmgkbaaGreatDoor.ob
end
