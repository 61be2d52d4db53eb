/- The proof of a statement of the seat, part 31. -/
import Derived.Test.YtleifmkjbmhlpaaGreatDoorX20
set_option linter.all false
set_option linter.defProp false
set_option maxRecDepth 1000000
namespace Go.Sx
open Go
open Go.IntKind renaming i64->M
open AH renaming blank->z
noncomputable section
def VK(Q:AV->Prop):kb [bt] [] 328 [.int M 1,.int M 1] Q=Q (.bM [.agg [.str [49],.str [49]],.int M 0]):=U
def VL(Q:AV->Prop):kb [bt] [] 328 [.int M 3,.int M 1] Q=Q (.bM [.agg [.str [51],.str [49]],.int M 0]):=U
def VM:af PP II 328 [.int M 1,.int M 1] (z 12) (.ret (.bM [.agg [.str [49],.str [49]],.int M 0]) (z 12)):=by
 refine bQ (ks:=[bt]) (T:=[]) (λ_=>⟨⟨rfl,rfl,trivial⟩,⟨rfl,rfl⟩,trivial⟩) ?_;rw[VK]
def VN:af PP II 328 [.int M 3,.int M 1] (z 12) (.ret (.bM [.agg [.str [51],.str [49]],.int M 0]) (z 12)):=by
 refine bQ (ks:=[bt]) (T:=[]) (λ_=>⟨⟨rfl,rfl,trivial⟩,⟨rfl,rfl⟩,trivial⟩) ?_;rw[VL]
def aay:ax PP II:=ax.pure 328
 (λX args b=>match args with
  |[.int M n,.int M d]=>X.ag (decide (d=1)) (bif decide (n=1)then b (.bM [.agg [.str [49],.str [49]],.int M 0])else X.ag (decide (n=3)) (b (.bM [.agg [.str [51],.str [49]],.int M 0])))
  |_=>X.fail)
 λX sem hX args b h=>by
  split at h
  ·rename_i n d;obtain⟨c,a⟩:=hX.ag _ _ h;have c:=py c;subst c;cases h1:decide (n=1)with
   |true=>rw[h1,cond_true]at a;have:=py h1;subst this;exact⟨_,a,λ_=>rfl,λ_=>rfl,VM⟩
   |false=>rw[h1,cond_false]at a;obtain⟨h3,h4⟩:=hX.ag _ _ a;have h3:=py h3;subst h3;exact⟨_,h4,λ_=>rfl,λ_=>rfl,VN⟩
  ·exact zR
end
end Go.Sx
