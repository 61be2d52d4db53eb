/- CertifyRoot is proved, part 35. -/
import Derived.Test.YtleifmkjbmhlpaaGreatDoorX34
import Derived.Test.YtleifmkjbmhlpaaGreatDoorX32
import Derived.Test.YtleifmkjbmhlpaaGreatDoorX28
set_option linter.unusedVariables false
set_option linter.unusedSimpArgs false
set_option linter.unusedSectionVars false
section
set_option maxRecDepth 1000000
namespace Go.Sx
open Go
end Go.Sx
end
section
set_option maxRecDepth 1000000
namespace Go.Sx
open Go
end Go.Sx
end
section
set_option maxRecDepth 1000000
namespace Go.Sx
open Go
end Go.Sx
end
section
set_option maxRecDepth 1000000
namespace Go.Sx
open Go
end Go.Sx
end
