/- The proof of a statement of the seat, part 25. -/
import Derived.Test.YtleifmkjbmhlpaaGreatDoorProg
import Derived.WalkKit
import Derived.Ground.NamesProg
import Derived.Ground.SlsfProg
import Derived.Ground.SlgcProg
import Derived.Shelf.SlSortCmp.NoneTotal
import Derived.Shelf.SlicesG.Cmp
set_option linter.all false
set_option linter.defProp false
section
namespace Go.Proofs
open Go.Shelf
def Tryz.sO:Go.Shelf.Ren:=⟨λ|6=>146|15=>145|14=>185|28=>183|29=>184|20=>216|21=>217|22=>218|23=>219|24=>220|25=>221|26=>222|27=>223|46=>244|47=>212|48=>213|49=>245|50=>246|57=>264|n=>n,λ|22=>30|24=>3|25=>80|3=>3|39=>163|0=>0|53=>159|55=>243|4=>4|46=>253|45=>252|50=>257|5=>5|9=>9|66=>292|70=>296|76=>318|77=>319|n=>n,λ|n=>n⟩
theorem Tryz.BZ:Go.Proofs.SlLaysF.n6 Tryz.prog Tryz.sO:=by
 refine' {f6:=⟨Tryz.f146.name,by decide,by kernel_rfl⟩,f14:=⟨Tryz.f185.name,by decide,by kernel_rfl⟩,f20:=⟨Tryz.f216.name,by decide,by kernel_rfl⟩,f21:=⟨Tryz.f217.name,by decide,by kernel_rfl⟩,f22:=⟨Tryz.f218.name,by decide,by kernel_rfl⟩,f23:=⟨Tryz.f219.name,by decide,by kernel_rfl⟩,f24:=⟨Tryz.f220.name,by decide,by kernel_rfl⟩,f25:=⟨Tryz.f221.name,by decide,by kernel_rfl⟩,f26:=⟨Tryz.f222.name,by decide,by kernel_rfl⟩,f27:=⟨Tryz.f223.name,by decide,by kernel_rfl⟩,f46:=⟨Tryz.f244.name,by decide,by kernel_rfl⟩,f49:=⟨Tryz.f245.name,by decide,by kernel_rfl⟩,f50:=⟨Tryz.f246.name,by decide,by kernel_rfl⟩,f57:=⟨Tryz.f264.name,by decide,by kernel_rfl⟩,..}<;>repeat' first|kernel_rfl|(intro _;kernel_rfl)|constructor
def Tryz.DH:Go.Shelf.Ren:=⟨λ|5=>110|7=>151|n=>n,λ|22=>3|3=>3|4=>4|n=>n,λ|n=>n⟩
theorem Tryz.zl:Go.Proofs.SlLaysC2.n5 Tryz.prog Tryz.DH:=by
 refine' {f5:=⟨Tryz.f110.name,by decide,by kernel_rfl⟩,f7:=⟨Tryz.f151.name,by decide,by kernel_rfl⟩,..}<;>repeat' first|kernel_rfl|(intro _;kernel_rfl)|constructor
end Go.Proofs
end
