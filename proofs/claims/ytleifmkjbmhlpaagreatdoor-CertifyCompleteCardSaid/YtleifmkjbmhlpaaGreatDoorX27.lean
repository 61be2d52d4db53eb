/- The proof of a statement of the seat, part 27. -/
import Derived.Test.YtleifmkjbmhlpaaGreatDoorProg
import Derived.WalkKit
import Derived.Ground.NamesProg
import Derived.Ground.SlsfProg
import Derived.Shelf.SlSortCmp.NoneTotal
import Derived.Shelf.Sort.Plain
set_option linter.all false
set_option linter.defProp false
section
namespace Go.Proofs
open Go.Shelf
def Tryz.A9:Go.Shelf.Ren:=⟨λ|189=>330|125=>145|257=>335|128=>183|129=>184|294=>337|295=>338|296=>339|297=>340|298=>341|299=>342|216=>343|300=>344|301=>345|328=>349|329=>212|330=>213|331=>350|332=>351|215=>151|343=>354|n=>n,λ|28=>30|3=>3|46=>163|0=>0|51=>159|53=>243|4=>4|183=>253|182=>252|131=>257|5=>5|9=>9|218=>292|222=>296|228=>318|229=>319|n=>n,λ|n=>n⟩
theorem Tryz.NG:Go.Proofs.Lays.n189 Tryz.prog Tryz.A9:=by repeat' first|kernel_rfl|(intro _;kernel_rfl)|constructor
def Tryz.sP:Go.Shelf.Ren:=⟨λ|6=>102|15=>145|14=>144|28=>183|29=>184|20=>175|21=>176|22=>177|23=>178|24=>179|25=>180|26=>181|27=>182|46=>211|47=>212|48=>213|49=>214|50=>215|57=>243|n=>n,λ|22=>130|24=>132|25=>193|3=>3|39=>163|0=>0|53=>159|55=>243|4=>4|46=>253|45=>252|50=>257|5=>5|9=>9|66=>292|70=>296|76=>318|77=>319|n=>n,λ|n=>n⟩
theorem Tryz.Ca:Go.Proofs.SlLaysF.n6 Tryz.prog Tryz.sP:=by
 refine' {f6:=⟨Tryz.f102.name,by decide,by kernel_rfl⟩,f14:=⟨Tryz.f144.name,by decide,by kernel_rfl⟩,f20:=⟨Tryz.f175.name,by decide,by kernel_rfl⟩,f21:=⟨Tryz.f176.name,by decide,by kernel_rfl⟩,f22:=⟨Tryz.f177.name,by decide,by kernel_rfl⟩,f23:=⟨Tryz.f178.name,by decide,by kernel_rfl⟩,f24:=⟨Tryz.f179.name,by decide,by kernel_rfl⟩,f25:=⟨Tryz.f180.name,by decide,by kernel_rfl⟩,f26:=⟨Tryz.f181.name,by decide,by kernel_rfl⟩,f27:=⟨Tryz.f182.name,by decide,by kernel_rfl⟩,f46:=⟨Tryz.f211.name,by decide,by kernel_rfl⟩,f49:=⟨Tryz.f214.name,by decide,by kernel_rfl⟩,f50:=⟨Tryz.f215.name,by decide,by kernel_rfl⟩,f57:=⟨Tryz.f243.name,by decide,by kernel_rfl⟩,..}<;>repeat' first|kernel_rfl|(intro _;kernel_rfl)|constructor
end Go.Proofs
end
