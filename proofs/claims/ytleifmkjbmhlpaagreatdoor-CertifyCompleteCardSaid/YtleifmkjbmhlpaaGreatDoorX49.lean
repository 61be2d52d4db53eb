/- The proof of a statement of the seat, part 49. -/
import Derived.Test.YtleifmkjbmhlpaaGreatDoorCards
import Derived.Test.YtleifmkjbmhlpaaGreatDoorTie
import Derived.LaidMore
import Derived.LaidHandle
import Derived.OpenShut
import Derived.Deep.DeepHandedRow
import Derived.Deep.Slices
import Derived.Test.YtleifmkjbmhlpaaGreatDoorX47
set_option linter.all false
set_option linter.defProp false
section
set_option maxRecDepth 100000
namespace Go.Proofs.YtleifmkjbmhlpaaGreatDoor.kC
open Go.ChangeShapes Go.WideShapes Go.ChangeAt Go.RowKit
theorem kids:Kids Tryz.prog (· < Tryz.prog.types.size):=kids_rows U U
theorem full:∀{t e:TypeId},t<Tryz.prog.types.size->Tryz.prog.underlying t=some (.slice e)->0<Tryz.prog.cellsOf e:=λ{t e} h1 a=>slices_full_of Tryz.prog U t e h1 a
theorem Xj:(decide (25<Tryz.prog.types.size))=true:=U
end Go.Proofs.YtleifmkjbmhlpaaGreatDoor.kC
end
