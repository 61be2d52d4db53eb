/- The proof of a statement of the seat, part 16. -/
import Derived.Test.YtleifmkjbmhlpaaGreatDoorProg
import Derived.WalkKit
import Derived.Ground.NamesProg
import Derived.Shelf.Strconv.Itoa3
import Derived.Shelf.Strconv.AtoiAll
import Derived.Shelf.Strings.SlTrimAscii
import Derived.Shelf.Strings.Repeat
import Derived.Shelf.Strings.Prefix
set_option linter.all false
set_option linter.defProp false
section
namespace Go.Proofs
open Go.Shelf
def Tryz.Dn:Go.Shelf.Ren:=⟨λ|171=>234|243=>249|246=>265|283=>274|284=>275|285=>276|286=>277|129=>184|317=>282|318=>283|319=>284|320=>285|337=>290|338=>291|n=>n,λ|3=>3|9=>9|2=>2|4=>4|171=>349|0=>0|53=>243|37=>151|5=>5|173=>351|212=>356|51=>159|20=>20|213=>357|46=>163|232=>239|233=>364|n=>n,λ|17=>6|18=>10|19=>11|n=>n⟩
theorem Tryz.Fo:Go.Proofs.LaysM.n171 Tryz.prog Tryz.Dn:=by repeat' first|kernel_rfl|(intro _;kernel_rfl)|constructor
def Tryz.Dp:Go.Shelf.Ren:=⟨λ|172=>117|244=>158|245=>159|247=>200|279=>201|280=>202|281=>203|282=>204|287=>237|316=>238|171=>234|205=>239|321=>254|322=>255|243=>249|246=>265|283=>274|284=>275|285=>276|286=>277|129=>184|317=>282|318=>283|319=>284|320=>285|337=>290|338=>291|n=>n,λ|9=>9|3=>3|75=>155|76=>157|4=>4|5=>5|167=>283|37=>151|0=>0|85=>284|2=>2|168=>286|53=>243|175=>311|46=>163|210=>314|127=>211|145=>331|143=>329|21=>21|171=>349|173=>351|212=>356|51=>159|20=>20|213=>357|232=>239|233=>364|80=>103|n=>n,λ|15=>4|16=>5|17=>6|18=>10|19=>11|n=>n⟩
theorem Tryz.QV:Go.Proofs.LaysC.n172 Tryz.prog Tryz.Dp:=by repeat' first|kernel_rfl|(intro _;kernel_rfl)|constructor
def Tryz.Dq:Go.Shelf.Ren:=⟨λ|160=>241|232=>258|231=>257|227=>259|234=>261|233=>260|236=>263|235=>262|228=>270|271=>273|151=>272|197=>271|120=>281|152=>280|260=>279|137=>286|119=>287|224=>288|225=>289|217=>292|266=>293|n=>n,λ|9=>9|4=>4|3=>3|5=>5|117=>335|116=>334|0=>0|124=>338|21=>21|105=>346|46=>163|119=>358|139=>361|138=>360|n=>n,λ|3=>8|4=>9|n=>n⟩
theorem Tryz.QW:Go.Proofs.Lays.n160 Tryz.prog Tryz.Dq:=by repeat' first|kernel_rfl|(intro _;kernel_rfl)|constructor
def Tryz.q5:Go.Shelf.Ren:=⟨λ|105=>235|212=>250|99=>251|165=>252|166=>81|170=>253|169=>82|263=>266|264=>267|206=>268|240=>124|241=>269|276=>166|277=>278|n=>n,λ|9=>9|3=>3|4=>4|20=>20|0=>0|46=>163|109=>323|5=>5|72=>153|76=>157|51=>159|146=>341|53=>243|148=>343|70=>150|37=>151|75=>155|127=>211|164=>244|80=>103|n=>n,λ|n=>n⟩
theorem Tryz.Iu:Go.Proofs.Lays.n105 Tryz.prog Tryz.q5:=by repeat' first|kernel_rfl|(intro _;kernel_rfl)|constructor
def Tryz.tq:Go.Shelf.Ren:=⟨λ|101=>240|208=>256|206=>268|n=>n,λ|9=>9|4=>4|3=>3|n=>n,λ|n=>n⟩
theorem Tryz.y6:Go.Proofs.Lays.n101 Tryz.prog Tryz.tq:=by repeat' first|kernel_rfl|(intro _;kernel_rfl)|constructor
end Go.Proofs
end
