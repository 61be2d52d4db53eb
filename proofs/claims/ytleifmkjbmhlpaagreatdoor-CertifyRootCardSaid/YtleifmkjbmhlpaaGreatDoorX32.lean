/- CertifyRoot is proved, part 32. -/
import Derived.Test.YtleifmkjbmhlpaaGreatDoorX30
import Derived.Test.YtleifmkjbmhlpaaGreatDoorX31
set_option linter.unusedVariables false
set_option linter.unusedSimpArgs false
set_option linter.unusedSectionVars false
section
set_option maxRecDepth 1000000
namespace Go.Sx
open Go
end Go.Sx
end
section
set_option maxRecDepth 1000000
namespace Go.Sx
open Go
end Go.Sx
end
section
set_option maxRecDepth 1000000
namespace Go.Sx
open Go
end Go.Sx
end
section
set_option maxRecDepth 1000000
namespace Go.Sx
open Go
noncomputable def e34 (b : Bool) : GE := .cond b (.one (.r { t := Tr.ofList [(4, .bool true)], nt := 80, H := AH.blank 14, df := [] })) (.one (.x 0 { t := .e, nt := 80, H := AH.blank 14, df := [] }))
end Go.Sx
end
