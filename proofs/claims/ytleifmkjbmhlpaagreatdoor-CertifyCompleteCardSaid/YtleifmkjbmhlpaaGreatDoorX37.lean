/- The proof of a statement of the seat, part 37. -/
import Derived.Test.YtleifmkjbmhlpaaGreatDoorX32
set_option linter.all false
set_option linter.defProp false
set_option maxRecDepth 1000000
namespace Go.Sx
open Go
noncomputable section
section
open Classical in
def Jj(b c d a:aae):Bool:=decide (b=Hs.get 0/\c=Hs.get 1/\d=Hs.get 3/\a=Hs.get 13)
def SV(H:AH):Bool:=Nat.ble 14 H.n&&yN bG (H.get 2)&&Jj (H.get 0) (H.get 1) (H.get 3) (H.get 13)
def SX(R:Bool->AV->Prop):ka (ks9++[Vs ks9]) (mO PP II []) 1000 9 [] Hs (λa H=>R (SV H) a) (λ_ _=>False)=R (true&&true&&Jj (Hs.get 0) (Hs.get 1) (Hs.get 3) (Hs.get 13)) (.bool true):=U
end
end
end Go.Sx
