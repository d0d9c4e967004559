/- Lemmas for ValidShown. -/
import Derived.Test.YtnnppcoplinajaaGreatB5
import Derived.Test.YtnnppcoplinajaaGreatB3
import Derived.Test.YtnnppcoplinajaaGreatB2
set_option linter.all false
open Bool renaming not_eq_true'→oA
open List renaming mem_cons→dG,pairwise_cons→sT
open Nat renaming ble_eq_true_of_le→cN,blt→bh,le_succ_of_le→bW
open Go.Proofs.Tryz renaming prog→ah
namespace Go.Proofs.YtnnppcoplinajaaGreat
open Go.Ag
variable{xs:List aa}{s:St}{ov:aa}
def UA{t:TypeId}{E:EI}{sz lo:Nat}(p:lY ah t=some E)(u:E.n=sz)(o:E.b<=88){y:aa}{ys:List aa}(h:cI sz lo s ov xs)(l:ee [] E.g E.n y s=some ys)(d:ys≠ [])(a:xs.length+ys.length<=1000000)(m:s.gE<=s.aL):
 ∃c,eU ah [] t ov y false s=some (.list sz (xs++ys) (.own s.aL),c)/\c.get [] s.aL=some .tok/\c.ci=s.ci/\c.aL=s.aL+1/\c.gE<=c.aL/\(∀n,n<s.aL->(∀k,ov= .list sz xs (.own k)->n≠k)->c.get [] n=s.get [] n):=by
 subst u;have q:AU ov=true/\ov.cells=[ov]:=by rcases h with⟨rfl,_⟩|⟨_,k,rfl,_⟩<;>exact⟨rfl,rfl⟩
 cases ys with
 |nil=>exact absurd rfl d
 |cons j ys=>
  rcases h with⟨rfl,rfl⟩|⟨d,k,rfl,v,x,w⟩
  have e:iR (j::ys).length E.b=true:=vw (by simpa using a) o;refine⟨s.new .tok,?_,by rw[eN,bS];rfl,rfl,rfl,bW m,fun n i _=>?_⟩;simp only[dX,eU,p,l,ju,ki,e,cF,List.nil_append];rw[eN,bN.2 (by omega)];rfl;have e:iR (xs.length+(j::ys).length) E.b=true:=vw a o;refine⟨(s.put k none).new .tok,?_,by rw[eN,mL,bS];rfl,rfl,rfl,bW (cU s k none m),fun n i f=>?_⟩;simp only[fc,eU,p,Option.bind_some,l,ju,v,e,Bool.and_self];rw[eN,mL,bN.2 (by omega),cF,aU,bN.2 (f k rfl)];rfl
def cI.token{sz lo:Nat}(h:cI sz lo s ov xs){k:Nat}(a:ov= .list sz xs (.own k)):lo<=k/\k<s.aL/\s.get [] k=some .tok:=by
 rcases h with⟨rfl,_⟩|⟨_,e,rfl,d,c,b⟩
 cases a;injection a with _ _ h;injection h with h;subst h;exact⟨c,b,d⟩
end Go.Proofs.YtnnppcoplinajaaGreat
namespace Go.Proofs.YtnnppcoplinajaaGreat
open Go.Ag
open Go.Sort (putRow grow Holds SWO HoldsK putRowK flatK get_flatK size_flatK)
theorem QU(x y:Int):lW [x,y]=bif an x 0 then y else x:=by
 simp only[lW];cases h:an y 0 with
 |true=>
  have:y=0:=by simpa[an] using h
  subst this;cases an x 0<;>rfl
 |false=>cases an x 0<;>rfl
def Eu: ∀a:ae,dn a a=0
 | []=>rfl
 |x::a=>by
  have:bh x.toNat x.toNat=false:=by rw[ol];exact dN (Nat.lt_irrefl _)
  simp only[dn,this,cF,Eu a]
def VX(a b:ae):dn a b= -1\/dn a b=0\/dn a b=1:=by
 induction a generalizing b with
 |nil=>cases b<;>simp[dn]
 |cons x a c=>
  cases b with
  |nil=>simp[dn]
  |cons y b=>
   simp only[dn];cases bh x.toNat y.toNat with
   |true=>simp
   |false=>
    cases bh y.toNat x.toNat with
    |true=>simp
    |false=>exact c b
theorem Au(a b:ae):dn b a= -dn a b:=by
 induction a generalizing b with
 |nil=>cases b<;>rfl
 |cons x a e=>
  cases b with
  |nil=>rfl
  |cons y b=>
   simp only[dn];rcases Nat.lt_trichotomy x.toNat y.toNat with h|h|h
   have d:bh x.toNat y.toNat=true:=cN h;have c:bh y.toNat x.toNat=false:=by rw[ol];exact dN (by omega)
   rw[d,c];rfl;have d:bh x.toNat y.toNat=false:=by rw[ol];exact dN (by omega)
   have c:bh y.toNat x.toNat=false:=by rw[ol];exact dN (by omega)
   rw[d,c];exact e b;have d:bh x.toNat y.toNat=false:=by rw[ol];exact dN (by omega)
   have c:bh y.toNat x.toNat=true:=cN h;rw[d,c];rfl
theorem uK{a b:ae}(h:dn a b=0):a=b:=by
 induction a generalizing b with
 |nil=>cases b with
  |nil=>rfl
  |cons y b=>simp[dn] at h
 |cons x a c=>
  cases b with
  |nil=>simp[dn] at h
  |cons y b=>
   simp only[dn] at h;cases h1:bh x.toNat y.toNat with
   |true=>rw[h1] at h;simp at h
   |false=>
    rw[h1] at h;cases h2:bh y.toNat x.toNat with
    |true=>rw[h2] at h;simp at h
    |false=>
     rw[h2] at h;have e:x.toNat=y.toNat:=by
      rw[ol] at h1 h2
      have:=of_decide_eq_false h1
      have:=of_decide_eq_false h2;omega
     rw[UInt8.toNat_inj.1 e,c h]
theorem Ev{a b c:ae}(e:dn a b<0)(d:dn b c<0):dn a c<0:=by
 induction a generalizing b c with
 |nil=>
  cases b with
  |nil=>simp[dn] at e
  |cons y b=>
   cases c with
   |nil=>simp[dn] at d
   |cons z c=>simp[dn]
 |cons x a f=>
  cases b with
  |nil=>simp[dn] at e
  |cons y b=>
   cases c with
   |nil=>simp[dn] at d
   |cons z c=>
    simp only[dn,ol] at e d ⊢;by_cases p:x.toNat<y.toNat;by_cases q:y.toNat<z.toNat;simp[show x.toNat<z.toNat by omega];by_cases q2:z.toNat<y.toNat;simp[q,q2] at d;simp[show x.toNat<z.toNat by omega];by_cases p2:y.toNat<x.toNat;simp[p,p2] at e;by_cases q:y.toNat<z.toNat;simp[show x.toNat<z.toNat by omega];by_cases q2:z.toNat<y.toNat;simp[q,q2] at d;simp only[p,p2,q,q2,dF,cF] at e d;simp only[show¬x.toNat<z.toNat by omega,show¬z.toNat<x.toNat by omega,dF,cF];exact f e d
def Ew(a b:ae×ae):iK a b=if dn a.1 b.1=0 then dn a.2 b.2 else dn a.1 b.1:=by
 unfold iK;by_cases h:dn a.1 b.1=0;have:an (dn a.1 b.1) 0=true:=by simp[an,h]
 rw[this,iP h];rfl;have:an (dn a.1 b.1) 0=false:=by simp[an,h]
 rw[this,iN h];rfl
def VY(a b:ae×ae):iK b a= -iK a b:=by
 rw[Ew,Ew,Au a.1 b.1,Au a.2 b.2];by_cases h:dn a.1 b.1=0;rw[iP h,iP (by omega)];rw[iN h,iN (by omega)]
def V0{a b:ae×ae}(h:iK a b=0):a=b:=by
 rw[Ew] at h;by_cases h1:dn a.1 b.1=0;rw[iP h1] at h;exact Prod.ext (uK h1) (uK h);rw[iN h1] at h;exact absurd h h1
def air(a:ae×ae):iK a a=0:=by
 rw[Ew,iP (Eu _),Eu]
def VZ{a b c:ae×ae}(f:iK a b<0)(d:iK b c<0):iK a c<0:=by
 rw[Ew] at f d ⊢;by_cases p:dn a.1 b.1=0;rw[iP p] at f;have e:=uK p;by_cases q:dn b.1 c.1=0;rw[iP q] at d;rw[e,iP q];exact Ev f d;rw[iN q] at d;rw[e,iN q];exact d;rw[iN p] at f;by_cases q:dn b.1 c.1=0;have e:=uK q;rw[<-e,iN p];exact f;rw[iN q] at d
 have:=Ev f d;rw[iN (by omega)];exact this
def GH:SWO (ltOf iK) where
 irrefl x:=by simp[ltOf,air]
 trans x y z h1 h2:=by
  simp only[ltOf,dE] at*;exact VZ h1 h2
 ntrans x y z h1 h2:=by
  simp only[ltOf,decide_eq_false_iff_not] at*;intro h3;rcases Int.lt_trichotomy (iK x y) 0 with p|p|p
  exact h1 p;rw[V0 p] at h3;exact h2 h3;have a:iK y x<0:=by rw[VY x y];omega
  exact h2 (VZ a h3)
def aeg(x y:ae×ae)(b:ltOf iK x y=false)(a:ltOf iK y x=false):x=y:=by
 simp only[ltOf,decide_eq_false_iff_not] at b a;rw[VY x y] at a;exact V0 (by omega)
def aao(x y:ae×ae):JB x y=ltOf iK x y:=rfl
def XL(x:ae×ae): ∀l:List (ae×ae),l.Pairwise (fun a b=>(!ltOf iK b a)=true)->(AQ x l).Pairwise (fun a b=>(!ltOf iK b a)=true)
 | [],_=>by simp[AQ]
 |y::l,h=>by
  simp only[AQ];cases e:JB y x with
  |true=>
   refine sT.2 ⟨fun z c=>?_,XL x l (sT.1 h).2⟩;rcases dG.1 ((Oh x l).mem_iff.1 c) with rfl|c
   rw[aao] at e;cases hc:ltOf iK z y with
   |false=>rfl
   |true=>have:=GH.trans _ _ _ hc e;rw[GH.irrefl] at this;cases this
   exact(sT.1 h).1 z c
  |false=>
   rw[aao] at e;refine sT.2 ⟨fun z c=>?_,h⟩;rcases dG.1 c with rfl|c
   rw[e];rfl;have d:=(sT.1 h).1 z c;simp only[oA] at d ⊢;exact GH.ntrans _ _ _ d e
def adB: ∀l,(DJ l).Pairwise (fun a b=>(!ltOf iK b a)=true)
 | []=>.nil
 |x::l=>XL x _ (adB l)
def axy{l r:List (ae×ae)}(h:l.Perm r)(f:l.Pairwise (fun a b=>(!ltOf iK b a)=true))(e:r.Pairwise (fun a b=>(!ltOf iK b a)=true)):l=r:=by
 refine List.Perm.eq_of_pairwise (le:=fun a b=>(!ltOf iK b a)=true) (fun a b _ _ d c=>?_) f e h;simp only[oA] at d c;exact aeg a b c d
def G0:Gh:= {at_:=fun _=>none,ro:=fun _ _=>none,dim:=fun _=>none }
def aeL{a b:World}(g:a.heap=b.heap)(f:a.tape=b.tape)(e:a.drawn=b.drawn)(d:a.os=b.os)(c:a.output=b.output):a=b:=by
 obtain⟨_,_,_,_,_⟩:=a;obtain⟨_,_,_,_,_⟩:=b;cases g;cases f;cases e;cases d;cases c;rfl
end Go.Proofs.YtnnppcoplinajaaGreat
namespace Go.Proofs.YtnnppcoplinajaaGreat
open Go.Ag
def yN(mk:aH)(n m o l c:Nat)(s:St):iM ah mk 25 (.arr n m o l c) s=some (.int .i64 (l:Nat)):=by kernel_rfl
def uI(n:Nat):(aa.map n).cells=[.map n]:=rfl
