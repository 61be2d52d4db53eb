/- The proof of a statement of the seat, part 48. -/
import Derived.Test.YtleifmkjbmhlpaaGreatDoorCards
import Derived.Test.YtleifmkjbmhlpaaGreatDoorTie
import Derived.LaidMore
import Derived.LaidHandle
import Derived.OpenShut
import Derived.Deep.DeepHandedRow
import Derived.Deep.Slices
set_option linter.all false
set_option linter.defProp false
section
set_option maxRecDepth 1000000
namespace Go.Proofs.YtleifmkjbmhlpaaGreatDoor.kC
open Go.ChangeShapes Go.WideShapes Go.ChangeAt Go.RowKit
theorem own:ownKnob Tryz.prog.godebug=none:=by kernel_rfl
def T3:Array Value := #[.slice none 0 0,.agg #[.int .i64 0,.slice none 0 0,.int .i64 0,.int .i64 0]]
noncomputable def CE(n:Nat)(os:Os):World :=
 {World.doorLaid Tryz.prog n os with heap:=(World.doorLaid Tryz.prog n os).heap.modify 8 λ
   | .cells _ t b=> .cells (Pinned.utf8FirstZ.map λ(a:Nat)=>Value.int .u8 (Int.ofNat a)).toArray t b
   |o=>o}
set_option maxHeartbeats 0 in
theorem aad(os:Os):laidMetH Tryz.prog Rows.certifySmallRow.laid ((CE 8000 os).forCall (λ_ _=>0) ⟨#[],T3,[]⟩).memory :=
 laidMetH_of_parts3 (fuel:=8) (laidMet_of_run' 8 (by as_aux_lemma=>kernel_rfl) (by as_aux_lemma=>kernel_rfl)) (by as_aux_lemma=>kernel_rfl) (by as_aux_lemma=>kernel_rfl)
end Go.Proofs.YtleifmkjbmhlpaaGreatDoor.kC
end
