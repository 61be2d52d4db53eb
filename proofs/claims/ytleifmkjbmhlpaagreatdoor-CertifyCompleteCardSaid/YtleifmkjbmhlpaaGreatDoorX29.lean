/- The proof of a statement of the seat, part 29. -/
import Derived.Test.YtleifmkjbmhlpaaGreatDoorX13
set_option linter.all false
set_option linter.defProp false
set_option maxRecDepth 1000000
namespace Go.Sx
open Go
noncomputable section
end
end Go.Sx
