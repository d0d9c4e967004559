/- Lemmas for ValidShown. -/
import Derived.Test.YtnnppcoplinajaaGreatB2
set_option linter.all false
namespace Go.Proofs.YtnnppcoplinajaaGreat
open Go.Ag
def vw{n b:Nat}(c:n<=1000000)(a:b<=88):iR n b=true:=by
 unfold iR;apply Nat.ble_eq_true_of_le;have:(n*2+1024)*b<=2001024*88:=Nat.mul_le_mul (by omega) a;omega
def Vq(a b c d e:Nat):(aa.arr a b c d e).cells=[.arr a b c d e]:=rfl
def ii(a b c d e:Nat):(aa.arr a b c d e).ge=true:=rfl
theorem qK: ∀(a b:List aa),aG (a++b)=aG a++aG b
 | [],b=>rfl
 |x::a,b=>by
  have c:=qK a b;show x.cells++aG (a++b)=(x.cells++aG a)++aG b;rw[c,List.append_assoc]
def NJ{sz:Nat}: ∀ {xs:List aa},(∀x∈xs,x.cells.length=sz)->(aG xs).length=xs.length*sz
 | [],_=>by simp[aG]
 |x::xs,h=>by
  have a:=NJ (xs:=xs) fun y b=>h y (by simp[b]);show(x.cells++aG xs).length=_;rw[List.length_append,a,h x (by simp),List.length_cons,Nat.add_mul];omega
def VS(n:Nat):(aa.yld n).ge=true:=rfl
def wf:List aa->Option (List ae)
 | []=>some []
 | .str a::l=>(wf l).bind fun r=>some (a::r)
 |_=>none
def agr:List aa->Option (List (ae×ae))
 | []=>some []
 | .str a:: .str b::l=>(agr l).bind fun r=>some ((a,b)::r)
 |_=>none
def L8: ∀l:List ae,wf (l.map ax)=some l
 | []=>rfl
 |a::l=>by
  show(wf (l.map ax)).bind _=_;rw[L8 l];rfl
def Er:(aa.Ge).cells=[.Ge]:=rfl
def AD: ∀l:List ae,aG (l.map ax)=l.map ax
 | []=>rfl
 |a::l=>by
  show(ax a).cells++aG (l.map ax)=_;rw[AD l];rfl
def iK(a b:ae×ae):Int:=bif an (dn a.1 b.1) 0 then dn a.2 b.2 else dn a.1 b.1
def JB(a b:ae×ae):Bool:=aX (iK a b) 0
def AQ(x:ae×ae):List (ae×ae)->List (ae×ae)
 | []=>[x]
 |y::l=>bif JB y x then y::AQ x l else x::y::l
def DJ:List (ae×ae)->List (ae×ae)
 | []=>[]
 |x::l=>AQ x (DJ l)
def Oh(x:ae×ae): ∀l,(AQ x l).Perm (x::l)
 | []=>.refl _
 |y::l=>by
  simp only[AQ];cases JB y x with
  |true=>exact((Oh x l).cons y).trans (.swap x y l)
  |false=>exact .refl _
def DK: ∀l,(DJ l).Perm l
 | []=>.refl _
 |x::l=>(Oh x _).trans ((DK l).cons x)
def GC:List aa->Option pA
 | [.Ge]=>some none
 | [.arr 1 m 0 len _]=>some (some (m,fun cs=>t7 (bif Nat.beq cs.length len&&Nat.blt len 1000001 then(wf cs).bind fun l=>some ((lB l).map ax) else none)))
 |_=>none
