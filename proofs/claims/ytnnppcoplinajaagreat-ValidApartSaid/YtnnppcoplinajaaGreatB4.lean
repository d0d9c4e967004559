/- Lemmas for ValidApart. -/
import Derived.Shelf.SortM.Plain
import Derived.Shelf.SortM.SortNone
import Derived.Shelf.SlSortCmp.NoneTotal
import Derived.Ground.SlgmProg
import Derived.Ground.SlsfProg
import Derived.Test.YtnnppcoplinajaaGreatProg
set_option linter.all false
namespace Go.Proofs
open Go.Shelf
def XX(P:Program)(f:FuncId):String:=match P.funcs[f]? with|some g=>g.name|none=> ""
def BQ{P:Program}{f:FuncId}{B:Func}(h1:(XX P f== "runtime.NumGoroutine")=false)(h2:P.funcs[f]? =some {B with name:=XX P f }):Bears P f B:=⟨_,h1,h2⟩
def Tryz.sort48_ren:Go.Shelf.Ren:=⟨fun|6=>140|8=>227|9=>234|19=>323|20=>324|21=>330|22=>331|23=>332|24=>333|25=>334|26=>335|27=>336|28=>337|29=>338|36=>439|31=>424|32=>425|37=>440|38=>441|39=>325|41=>499|n=>n,fun|27=>25|29=>9|3=>3|32=>294|26=>25|0=>0|44=>387|46=>389|4=>4|36=>381|35=>380|41=>111|5=>5|9=>9|53=>478|57=>482|63=>526|64=>527|n=>n,fun|n=>n⟩
def Tryz.sort48:Go.Proofs.SlLaysM.n6 Tryz.prog Tryz.sort48_ren:=by
 constructor<;>first|kernel_rfl|(intro _;kernel_rfl)|(refine BQ ?_ ?_<;>kernel_rfl)
