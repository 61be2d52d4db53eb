/- Lemmas, part 14. -/
import Derived.Test.YtoijalagmmgkbaaGreatDoorProg
import Derived.WalkKit
import Derived.Ground.NamesProg
import Derived.Shelf.Strconv.Itoa3
import Derived.Shelf.Strconv.AtoiAll
import Derived.Shelf.Strings.SlTrimAscii
import Derived.Shelf.Strings.Repeat
import Derived.Shelf.Strings.Prefix
set_option linter.all false
set_option linter.defProp false
section
namespace Go.Proofs
open Go.Shelf
def Tryz.YY:Go.Shelf.Ren:=⟨λ|171=>164|243=>214|246=>264|283=>286|284=>287|285=>288|286=>289|129=>190|317=>298|318=>299|319=>300|320=>301|337=>306|338=>307|n=>n,λ|3=>3|9=>9|2=>2|4=>4|171=>341|0=>0|53=>261|37=>239|5=>5|173=>343|212=>354|51=>259|20=>20|213=>355|46=>217|232=>362|233=>363|n=>n,λ|17=>8|18=>12|19=>13|n=>n⟩
theorem Tryz.Ca:Go.Proofs.LaysM.n171 Tryz.prog Tryz.YY:=by repeat' first|kernel_rfl|(intro _;kernel_rfl)|constructor
def Tryz.An:Go.Shelf.Ren:=⟨λ|172=>131|244=>177|245=>178|247=>228|279=>229|280=>230|281=>231|282=>232|287=>273|316=>274|171=>164|205=>275|321=>292|322=>293|243=>214|246=>264|283=>286|284=>287|285=>288|286=>289|129=>190|317=>298|318=>299|319=>300|320=>301|337=>306|338=>307|n=>n,λ|9=>9|3=>3|75=>211|76=>212|4=>4|5=>5|167=>283|37=>239|0=>0|85=>284|2=>2|168=>286|53=>261|175=>326|46=>217|210=>330|127=>276|145=>350|143=>348|21=>21|171=>341|173=>343|212=>354|51=>259|20=>20|213=>355|232=>362|233=>363|80=>243|n=>n,λ|15=>6|16=>7|17=>8|18=>12|19=>13|n=>n⟩
theorem Tryz.LQ:Go.Proofs.LaysC.n172 Tryz.prog Tryz.An:=by repeat' first|kernel_rfl|(intro _;kernel_rfl)|constructor
def Tryz.Ao:Go.Shelf.Ren:=⟨λ|160=>211|232=>258|231=>257|227=>259|234=>261|233=>260|236=>263|235=>262|228=>282|271=>285|151=>284|197=>283|120=>297|152=>296|260=>295|137=>302|119=>303|224=>304|225=>305|217=>308|266=>309|n=>n,λ|9=>9|4=>4|3=>3|5=>5|117=>313|116=>312|0=>0|124=>316|21=>21|105=>338|46=>217|119=>356|139=>359|138=>358|n=>n,λ|3=>10|4=>11|n=>n⟩
theorem Tryz.LR:Go.Proofs.Lays.n160 Tryz.prog Tryz.Ao:=by repeat' first|kernel_rfl|(intro _;kernel_rfl)|constructor
def Tryz.oC:Go.Shelf.Ren:=⟨λ|105=>165|212=>215|99=>216|165=>217|166=>166|170=>218|169=>167|263=>265|264=>266|206=>267|240=>219|241=>268|276=>269|277=>290|n=>n,λ|9=>9|3=>3|4=>4|20=>20|0=>0|46=>217|109=>271|5=>5|72=>241|76=>212|51=>259|146=>318|53=>261|148=>320|70=>238|37=>239|75=>211|127=>276|164=>322|80=>243|n=>n,λ|n=>n⟩
theorem Tryz.Ex:Go.Proofs.Lays.n105 Tryz.prog Tryz.oC:=by repeat' first|kernel_rfl|(intro _;kernel_rfl)|constructor
def Tryz.qF:Go.Shelf.Ren:=⟨λ|101=>210|208=>256|206=>267|n=>n,λ|9=>9|4=>4|3=>3|n=>n,λ|n=>n⟩
theorem Tryz.wm:Go.Proofs.Lays.n101 Tryz.prog Tryz.qF:=by repeat' first|kernel_rfl|(intro _;kernel_rfl)|constructor
end Go.Proofs
end
