/- Lemmas for ValidApart. -/
import Derived.Test.YtnnppcoplinajaaGreatB2
set_option linter.all false
namespace Go.Proofs.YtnnppcoplinajaaGreat
open Go.Ag
def vI{n b:Nat}(c:n<=1000000)(a:b<=88):jc n b=true:=by
 unfold jc;apply Nat.ble_eq_true_of_le;have:(n*2+1024)*b<=2001024*88:=Nat.mul_le_mul (by omega) a;omega
def S8(a b c d e:Nat):(aa.arr a b c d e).cells=[.arr a b c d e]:=rfl
def iU(a b c d e:Nat):(aa.arr a b c d e).ge=true:=rfl
theorem qF: ∀(a b:List aa),aF (a++b)=aF a++aF b
 | [],b=>rfl
 |x::a,b=>by
  have c:=qF a b;show x.cells++aF (a++b)=(x.cells++aF a)++aF b;rw[c,List.append_assoc]
def MP{sz:Nat}: ∀ {xs:List aa},(∀x∈xs,x.cells.length=sz)->(aF xs).length=xs.length*sz
 | [],_=>by simp[aF]
 |x::xs,h=>by
  have a:=MP (xs:=xs) fun y b=>h y (by simp[b]);show(x.cells++aF xs).length=_;rw[List.length_append,a,h x (by simp),List.length_cons,Nat.add_mul];omega
def Tt(n:Nat):(aa.yld n).ge=true:=rfl
def wD:List aa->Option (List ag)
 | []=>some []
 | .str a::l=>(wD l).bind fun r=>some (a::r)
 |_=>none
def acO:List aa->Option (List (ag×ag))
 | []=>some []
 | .str a:: .str b::l=>(acO l).bind fun r=>some ((a,b)::r)
 |_=>none
def LP: ∀l:List ag,wD (l.map aG)=some l
 | []=>rfl
 |a::l=>by
  show(wD (l.map aG)).bind _=_;rw[LP l];rfl
def Ei:(aa.oZ).cells=[.oZ]:=rfl
def AA: ∀l:List ag,aF (l.map aG)=l.map aG
 | []=>rfl
 |a::l=>by
  show(aG a).cells++aF (l.map aG)=_;rw[AA l];rfl
def jm(a b:ag×ag):Int:=bif an (dz a.1 b.1) 0 then dz a.2 b.2 else dz a.1 b.1
def JE(a b:ag×ag):Bool:=bc (jm a b) 0
def AO(x:ag×ag):List (ag×ag)->List (ag×ag)
 | []=>[x]
 |y::l=>bif JE y x then y::AO x l else x::y::l
def Dw:List (ag×ag)->List (ag×ag)
 | []=>[]
 |x::l=>AO x (Dw l)
def Nj(x:ag×ag): ∀l,(AO x l).Perm (x::l)
 | []=>.refl _
 |y::l=>by
  simp only[AO];cases JE y x with
  |true=>exact((Nj x l).cons y).trans (.swap x y l)
  |false=>exact .refl _
def GH: ∀l,(Dw l).Perm l
 | []=>.refl _
 |x::l=>(Nj x _).trans ((GH l).cons x)
def GJ:List aa->Option pH
 | [.oZ]=>some none
 | [.arr 1 m 0 len _]=>some (some (m,fun cs=>t6 (bif Nat.beq cs.length len&&Nat.blt len 1000001 then(wD cs).bind fun l=>some ((lW l).map aG) else none)))
 |_=>none
