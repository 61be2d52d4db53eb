/- CertifyRoot is proved, part 29. -/
import Derived.Test.YtleifmkjbmhlpaaGreatDoorX24
set_option linter.unusedVariables false
set_option linter.unusedSimpArgs false
set_option linter.unusedSectionVars false
section
set_option maxRecDepth 1000000
namespace Go.Sx
open Go
end Go.Sx
end
