/- Lemmas, part 24. -/
import Derived.Test.YtoijalagmmgkbaaGreatDoorProg
import Derived.WalkKit
import Derived.Ground.NamesProg
import Derived.Ground.SlsfProg
import Derived.Ground.SlgcProg
import Derived.Shelf.SlSortCmp.NoneTotal
import Derived.Shelf.SlicesG.Cmp
set_option linter.all false
set_option linter.defProp false
section
namespace Go.Proofs
open Go.Shelf
def Tryz.qe:Go.Shelf.Ren:=⟨λ|6=>150|15=>135|14=>209|28=>189|29=>190|20=>248|21=>249|22=>250|23=>251|24=>252|25=>253|26=>254|27=>255|46=>279|47=>234|48=>235|49=>280|50=>281|57=>294|n=>n,λ|22=>26|24=>3|25=>51|3=>3|39=>217|0=>0|53=>259|55=>261|4=>4|46=>252|45=>251|50=>256|5=>5|9=>9|66=>289|70=>293|76=>332|77=>131|n=>n,λ|n=>n⟩
theorem Tryz.yQ:Go.Proofs.SlLaysF.n6 Tryz.prog Tryz.qe:=by
 refine' {f6:=⟨Tryz.f150.name,by decide,by kernel_rfl⟩,f14:=⟨Tryz.f209.name,by decide,by kernel_rfl⟩,f20:=⟨Tryz.f248.name,by decide,by kernel_rfl⟩,f21:=⟨Tryz.f249.name,by decide,by kernel_rfl⟩,f22:=⟨Tryz.f250.name,by decide,by kernel_rfl⟩,f23:=⟨Tryz.f251.name,by decide,by kernel_rfl⟩,f24:=⟨Tryz.f252.name,by decide,by kernel_rfl⟩,f25:=⟨Tryz.f253.name,by decide,by kernel_rfl⟩,f26:=⟨Tryz.f254.name,by decide,by kernel_rfl⟩,f27:=⟨Tryz.f255.name,by decide,by kernel_rfl⟩,f46:=⟨Tryz.f279.name,by decide,by kernel_rfl⟩,f49:=⟨Tryz.f280.name,by decide,by kernel_rfl⟩,f50:=⟨Tryz.f281.name,by decide,by kernel_rfl⟩,f57:=⟨Tryz.f294.name,by decide,by kernel_rfl⟩,..}<;>repeat' first|kernel_rfl|(intro _;kernel_rfl)|constructor
def Tryz.AI:Go.Shelf.Ren:=⟨λ|5=>99|7=>151|n=>n,λ|22=>3|3=>3|4=>4|n=>n,λ|n=>n⟩
theorem Tryz.wB:Go.Proofs.SlLaysC2.n5 Tryz.prog Tryz.AI:=by
 refine' {f5:=⟨Tryz.f99.name,by decide,by kernel_rfl⟩,f7:=⟨Tryz.f151.name,by decide,by kernel_rfl⟩,..}<;>repeat' first|kernel_rfl|(intro _;kernel_rfl)|constructor
end Go.Proofs
end
