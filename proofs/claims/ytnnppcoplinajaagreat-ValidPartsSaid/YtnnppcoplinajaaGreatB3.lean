/- Lemmas for ValidParts. -/
import Derived.Test.YtnnppcoplinajaaGreatB2
set_option linter.all false
namespace Go.Proofs.YtnnppcoplinajaaGreat
open Go.Ag
def vi{n b:Nat}(c:n<=1000000)(a:b<=88):iY n b=true:=by
 unfold iY;apply Nat.ble_eq_true_of_le;have:(n*2+1024)*b<=2001024*88:=Nat.mul_le_mul (by omega) a;omega
def Uy(a b c d e:Nat):(aa.arr a b c d e).cells=[.arr a b c d e]:=rfl
def hG(a b c d e:Nat):(aa.arr a b c d e).ge=true:=rfl
theorem qx: ∀(a b:List aa),aF (a++b)=aF a++aF b
 | [],b=>rfl
 |x::a,b=>by
  have c:=qx a b;show x.cells++aF (a++b)=(x.cells++aF a)++aF b;rw[c,List.append_assoc]
def MZ{sz:Nat}: ∀ {xs:List aa},(∀x∈xs,x.cells.length=sz)->(aF xs).length=xs.length*sz
 | [],_=>by simp[aF]
 |x::xs,h=>by
  have a:=MZ (xs:=xs) fun y b=>h y (by simp[b]);show(x.cells++aF xs).length=_;rw[List.length_append,a,h x (by simp),List.length_cons,Nat.add_mul];omega
def UZ(n:Nat):(aa.yld n).ge=true:=rfl
def vW:List aa->Option (List ae)
 | []=>some []
 | .str a::l=>(vW l).bind fun r=>some (a::r)
 |_=>none
def afg:List aa->Option (List (ae×ae))
 | []=>some []
 | .str a:: .str b::l=>(afg l).bind fun r=>some ((a,b)::r)
 |_=>none
def Lr: ∀l:List ae,vW (l.map aA)=some l
 | []=>rfl
 |a::l=>by
  show(vW (l.map aA)).bind _=_;rw[Lr l];rfl
def D8:(aa.AL).cells=[.AL]:=rfl
def Ac: ∀l:List ae,aF (l.map aA)=l.map aA
 | []=>rfl
 |a::l=>by
  show(aA a).cells++aF (l.map aA)=_;rw[Ac l];rfl
def iC(a b:ae×ae):Int:=bif an (db a.1 b.1) 0 then db a.2 b.2 else db a.1 b.1
def I9(a b:ae×ae):Bool:=aV (iC a b) 0
def An(x:ae×ae):List (ae×ae)->List (ae×ae)
 | []=>[x]
 |y::l=>bif I9 y x then y::An x l else x::y::l
def Dn:List (ae×ae)->List (ae×ae)
 | []=>[]
 |x::l=>An x (Dn l)
def Nw(x:ae×ae): ∀l,(An x l).Perm (x::l)
 | []=>.refl _
 |y::l=>by
  simp only[An];cases I9 y x with
  |true=>exact((Nw x l).cons y).trans (.swap x y l)
  |false=>exact .refl _
def Dp: ∀l,(Dn l).Perm l
 | []=>.refl _
 |x::l=>(Nw x _).trans ((Dp l).cons x)
def Gf:List aa->Option o7
 | [.AL]=>some none
 | [.arr 1 m 0 len _]=>some (some (m,fun cs=>tN (bif Nat.beq cs.length len&&Nat.blt len 1000001 then(vW cs).bind fun l=>some ((lj l).map aA) else none)))
 |_=>none
