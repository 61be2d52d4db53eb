/- CertifyOpens is proved, part 32. -/
import Derived.Test.YtleifmkjbmhlpaaGreatDoorX30
set_option linter.unusedVariables false
set_option linter.unusedSimpArgs false
set_option linter.unusedSectionVars false
section
set_option maxRecDepth 1000000
namespace Go.Sx
open Go
open Classical in
noncomputable def hsIs (b0 b1 b3 b13:ABlk): Bool:=decide (b0=Hs.get 0∧b1=Hs.get 1∧b3=Hs.get 3∧b13=Hs.get 13)
noncomputable def HsOk (H:AH): Bool:=Nat.ble 14 H.n&&roInts constAVs (H.get 2)&&hsIs (H.get 0) (H.get 1) (H.get 3) (H.get 13)
theorem sane_run (R:Bool→AV→Prop): kbody (ks9++[kTry ks9]) (lamT PP II []) 1000 9 [] Hs (fun a H=>R (HsOk H) a) (fun _ _=>False)=R (true&&true&&hsIs (Hs.get 0) (Hs.get 1) (Hs.get 3) (Hs.get 13)) (.bool true):=by kernel_rfl
end Go.Sx
end
