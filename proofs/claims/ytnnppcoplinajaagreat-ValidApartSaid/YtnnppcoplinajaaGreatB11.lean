/- Lemmas for ValidApart. -/
import Derived.Test.YtnnppcoplinajaaGreatB4
import Derived.Shelf.SortM.Plain
import Derived.Shelf.SortM.SortNone
import Derived.Shelf.SlSortCmp.NoneTotal
import Derived.Ground.SlgmProg
import Derived.Ground.SlsfProg
import Derived.Test.YtnnppcoplinajaaGreatProg
set_option linter.all false
open Go.Proofs.Tryz renaming prog→ae
namespace Go.Proofs
open Go.Shelf
def Tryz.sortF304_ren:Go.Shelf.Ren:=⟨fun|6=>304|15=>227|14=>417|28=>323|29=>324|20=>478|21=>479|22=>480|23=>481|24=>482|25=>483|26=>484|27=>485|46=>518|47=>424|48=>425|49=>519|50=>520|57=>526|n=>n,fun|22=>363|24=>368|25=>370|3=>3|39=>294|0=>0|53=>387|55=>389|4=>4|46=>381|45=>380|50=>111|5=>5|9=>9|66=>478|70=>482|76=>526|77=>527|n=>n,fun|n=>n⟩
def Tryz.sortF304:Go.Proofs.SlLaysF0.n6 ae Tryz.sortF304_ren:=by
 constructor<;>first|kernel_rfl|(intro _;kernel_rfl)|(refine BQ ?_ ?_<;>kernel_rfl)
def Tryz.sortF309_ren:Go.Shelf.Ren:=⟨fun|6=>309|15=>227|14=>419|28=>323|29=>324|20=>486|21=>487|22=>488|23=>489|24=>490|25=>491|26=>492|27=>493|46=>521|47=>424|48=>425|49=>522|50=>523|57=>527|n=>n,fun|22=>286|24=>290|25=>375|3=>3|39=>294|0=>0|53=>387|55=>389|4=>4|46=>381|45=>380|50=>111|5=>5|9=>9|66=>478|70=>482|76=>526|77=>527|n=>n,fun|n=>n⟩
def Tryz.sortF309:Go.Proofs.SlLaysF0.n6 ae Tryz.sortF309_ren:=by
 constructor<;>first|kernel_rfl|(intro _;kernel_rfl)|(refine BQ ?_ ?_<;>kernel_rfl)
def Tryz.sortF220_ren:Go.Shelf.Ren:=⟨fun|6=>220|15=>227|14=>302|28=>323|29=>324|20=>409|21=>410|22=>411|23=>412|24=>413|25=>414|26=>415|27=>416|46=>475|47=>424|48=>425|49=>476|50=>477|57=>517|n=>n,fun|22=>193|24=>200|25=>282|3=>3|39=>294|0=>0|53=>387|55=>389|4=>4|46=>381|45=>380|50=>111|5=>5|9=>9|66=>478|70=>482|76=>526|77=>527|n=>n,fun|n=>n⟩
def Tryz.sortF220:Go.Proofs.SlLaysF0.n6 ae Tryz.sortF220_ren:=by
 constructor<;>first|kernel_rfl|(intro _;kernel_rfl)|(refine BQ ?_ ?_<;>kernel_rfl)
def Tryz.sortF134_ren:Go.Shelf.Ren:=⟨fun|6=>134|15=>227|14=>226|28=>323|29=>324|20=>315|21=>316|22=>317|23=>318|24=>319|25=>320|26=>321|27=>322|46=>423|47=>424|48=>425|49=>426|50=>427|57=>494|n=>n,fun|22=>35|24=>31|25=>211|3=>3|39=>294|0=>0|53=>387|55=>389|4=>4|46=>381|45=>380|50=>111|5=>5|9=>9|66=>478|70=>482|76=>526|77=>527|n=>n,fun|n=>n⟩
def Tryz.sortF134:Go.Proofs.SlLaysF0.n6 ae Tryz.sortF134_ren:=by
 constructor<;>first|kernel_rfl|(intro _;kernel_rfl)|(refine BQ ?_ ?_<;>kernel_rfl)
def Tryz.sortF230_ren:Go.Shelf.Ren:=⟨fun|6=>230|15=>227|14=>327|28=>323|29=>324|20=>431|21=>432|22=>433|23=>434|24=>435|25=>436|26=>437|27=>438|46=>496|47=>424|48=>425|49=>497|50=>498|57=>524|n=>n,fun|22=>25|24=>9|25=>163|3=>3|39=>294|0=>0|53=>387|55=>389|4=>4|46=>381|45=>380|50=>111|5=>5|9=>9|66=>478|70=>482|76=>526|77=>527|n=>n,fun|n=>n⟩
def Tryz.sortF230:Go.Proofs.SlLaysF.n6 ae Tryz.sortF230_ren:=by
 constructor<;>first|kernel_rfl|(intro _;kernel_rfl)|(refine BQ ?_ ?_<;>kernel_rfl)
