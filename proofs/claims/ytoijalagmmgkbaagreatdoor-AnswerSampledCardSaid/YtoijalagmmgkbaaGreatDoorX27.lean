/- Lemmas, part 27. -/
import Derived.Test.YtoijalagmmgkbaaGreatDoorProg
import Derived.WalkKit
import Derived.Ground.NamesProg
import Derived.Ground.SlsfProg
import Derived.Shelf.SlSortCmp.NoneTotal
import Derived.Shelf.Sort.Plain
set_option linter.all false
set_option linter.defProp false
section
namespace Go.Proofs
open Go.Shelf
def Tryz.xS:Go.Shelf.Ren:=⟨λ|189=>345|125=>135|257=>348|128=>189|129=>190|294=>349|295=>350|296=>351|297=>352|298=>353|299=>354|216=>355|300=>356|301=>357|328=>358|329=>234|330=>235|331=>359|332=>360|215=>151|343=>361|n=>n,λ|28=>26|3=>3|46=>217|0=>0|51=>259|53=>261|4=>4|183=>252|182=>251|131=>256|5=>5|9=>9|218=>289|222=>293|228=>332|229=>131|n=>n,λ|n=>n⟩
theorem Tryz.Jd:Go.Proofs.Lays.n189 Tryz.prog Tryz.xS:=by repeat' first|kernel_rfl|(intro _;kernel_rfl)|constructor
def Tryz.qf:Go.Shelf.Ren:=⟨λ|6=>93|15=>135|14=>149|28=>189|29=>190|20=>201|21=>202|22=>203|23=>204|24=>205|25=>206|26=>207|27=>208|46=>245|47=>234|48=>235|49=>246|50=>247|57=>278|n=>n,λ|22=>87|24=>89|25=>171|3=>3|39=>217|0=>0|53=>259|55=>261|4=>4|46=>252|45=>251|50=>256|5=>5|9=>9|66=>289|70=>293|76=>332|77=>131|n=>n,λ|n=>n⟩
theorem Tryz.yR:Go.Proofs.SlLaysF.n6 Tryz.prog Tryz.qf:=by
 refine' {f6:=⟨Tryz.f93.name,by decide,by kernel_rfl⟩,f14:=⟨Tryz.f149.name,by decide,by kernel_rfl⟩,f20:=⟨Tryz.f201.name,by decide,by kernel_rfl⟩,f21:=⟨Tryz.f202.name,by decide,by kernel_rfl⟩,f22:=⟨Tryz.f203.name,by decide,by kernel_rfl⟩,f23:=⟨Tryz.f204.name,by decide,by kernel_rfl⟩,f24:=⟨Tryz.f205.name,by decide,by kernel_rfl⟩,f25:=⟨Tryz.f206.name,by decide,by kernel_rfl⟩,f26:=⟨Tryz.f207.name,by decide,by kernel_rfl⟩,f27:=⟨Tryz.f208.name,by decide,by kernel_rfl⟩,f46:=⟨Tryz.f245.name,by decide,by kernel_rfl⟩,f49:=⟨Tryz.f246.name,by decide,by kernel_rfl⟩,f50:=⟨Tryz.f247.name,by decide,by kernel_rfl⟩,f57:=⟨Tryz.f278.name,by decide,by kernel_rfl⟩,..}<;>repeat' first|kernel_rfl|(intro _;kernel_rfl)|constructor
end Go.Proofs
end
