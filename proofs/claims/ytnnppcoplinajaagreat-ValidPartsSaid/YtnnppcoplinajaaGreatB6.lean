/- Lemmas for ValidParts. -/
import Derived.Test.YtnnppcoplinajaaGreatB5
import Derived.Test.YtnnppcoplinajaaGreatB3
import Derived.Test.YtnnppcoplinajaaGreatB2
set_option linter.all false
open Bool renaming not_eq_true'→mQ
open List renaming mem_cons→dl,pairwise_cons→sC
open Nat renaming ble_eq_true_of_le→cE,blt→bh,le_succ_of_le→bU
open Go.Proofs.Tryz renaming prog→ah
namespace Go.Proofs.YtnnppcoplinajaaGreat
open Go.Ag
variable{xs:List aa}{s:St}{ov:aa}
def TD{t:TypeId}{E:EI}{sz lo:Nat}(p:lQ ah t=some E)(u:E.n=sz)(o:E.b<=88){y:aa}{ys:List aa}(h:cP sz lo s ov xs)(l:em [] E.g E.n y s=some ys)(d:ys≠ [])(a:xs.length+ys.length<=1000000)(m:s.gt<=s.aL):
 ∃c,fB ah [] t ov y false s=some (.list sz (xs++ys) (.own s.aL),c)/\c.get [] s.aL=some .tok/\c.ci=s.ci/\c.aL=s.aL+1/\c.gt<=c.aL/\(∀n,n<s.aL->(∀k,ov= .list sz xs (.own k)->n≠k)->c.get [] n=s.get [] n):=by
 subst u;have q:Ap ov=true/\ov.cells=[ov]:=by rcases h with⟨rfl,_⟩|⟨_,k,rfl,_⟩<;>exact⟨rfl,rfl⟩
 cases ys with
 |nil=>exact absurd rfl d
 |cons j ys=>
  rcases h with⟨rfl,rfl⟩|⟨d,k,rfl,v,x,w⟩
  have e:iY (j::ys).length E.b=true:=vi (by simpa using a) o;refine⟨s.new .tok,?_,by rw[eT,bS];rfl,rfl,rfl,bU m,fun n i _=>?_⟩;simp only[dW,fB,p,l,jM,kB,e,cF,List.nil_append];rw[eT,bN.2 (by omega)];rfl;have e:iY (xs.length+(j::ys).length) E.b=true:=vi a o;refine⟨(s.put k none).new .tok,?_,by rw[eT,mA,bS];rfl,rfl,rfl,bU (cR s k none m),fun n i f=>?_⟩;simp only[fH,fB,p,Option.bind_some,l,jM,v,e,Bool.and_self];rw[eT,mA,bN.2 (by omega),cF,aR,bN.2 (f k rfl)];rfl
def cP.token{sz lo:Nat}(h:cP sz lo s ov xs){k:Nat}(a:ov= .list sz xs (.own k)):lo<=k/\k<s.aL/\s.get [] k=some .tok:=by
 rcases h with⟨rfl,_⟩|⟨_,e,rfl,d,c,b⟩
 cases a;injection a with _ _ h;injection h with h;subst h;exact⟨c,b,d⟩
end Go.Proofs.YtnnppcoplinajaaGreat
namespace Go.Proofs.YtnnppcoplinajaaGreat
open Go.Ag
open Go.Sort (putRow grow Holds SWO HoldsK putRowK flatK get_flatK size_flatK)
def P5(x y:Int):lO [x,y]=bif an x 0 then y else x:=by
 simp only[lO];cases h:an y 0 with
 |true=>
  have:y=0:=by simpa[an] using h
  subst this;cases an x 0<;>rfl
 |false=>cases an x 0<;>rfl
def Ec: ∀a:ae,db a a=0
 | []=>rfl
 |x::a=>by
  have:bh x.toNat x.toNat=false:=by rw[oc];exact dN (Nat.lt_irrefl _)
  simp only[db,this,cF,Ec a]
def U5(a b:ae):db a b= -1\/db a b=0\/db a b=1:=by
 induction a generalizing b with
 |nil=>cases b<;>simp[db]
 |cons x a c=>
  cases b with
  |nil=>simp[db]
  |cons y b=>
   simp only[db];cases bh x.toNat y.toNat with
   |true=>simp
   |false=>
    cases bh y.toNat x.toNat with
    |true=>simp
    |false=>exact c b
def BO(a b:ae):db b a= -db a b:=by
 induction a generalizing b with
 |nil=>cases b<;>rfl
 |cons x a e=>
  cases b with
  |nil=>rfl
  |cons y b=>
   simp only[db];rcases Nat.lt_trichotomy x.toNat y.toNat with h|h|h
   have d:bh x.toNat y.toNat=true:=cE h;have c:bh y.toNat x.toNat=false:=by rw[oc];exact dN (by omega)
   rw[d,c];rfl;have d:bh x.toNat y.toNat=false:=by rw[oc];exact dN (by omega)
   have c:bh y.toNat x.toNat=false:=by rw[oc];exact dN (by omega)
   rw[d,c];exact e b;have d:bh x.toNat y.toNat=false:=by rw[oc];exact dN (by omega)
   have c:bh y.toNat x.toNat=true:=cE h;rw[d,c];rfl
theorem uy{a b:ae}(h:db a b=0):a=b:=by
 induction a generalizing b with
 |nil=>cases b with
  |nil=>rfl
  |cons y b=>simp[db] at h
 |cons x a c=>
  cases b with
  |nil=>simp[db] at h
  |cons y b=>
   simp only[db] at h;cases h1:bh x.toNat y.toNat with
   |true=>rw[h1] at h;simp at h
   |false=>
    rw[h1] at h;cases h2:bh y.toNat x.toNat with
    |true=>rw[h2] at h;simp at h
    |false=>
     rw[h2] at h;have e:x.toNat=y.toNat:=by
      rw[oc] at h1 h2
      have:=of_decide_eq_false h1
      have:=of_decide_eq_false h2;omega
     rw[UInt8.toNat_inj.1 e,c h]
def Ed{a b c:ae}(e:db a b<0)(d:db b c<0):db a c<0:=by
 induction a generalizing b c with
 |nil=>
  cases b with
  |nil=>simp[db] at e
  |cons y b=>
   cases c with
   |nil=>simp[db] at d
   |cons z c=>simp[db]
 |cons x a f=>
  cases b with
  |nil=>simp[db] at e
  |cons y b=>
   cases c with
   |nil=>simp[db] at d
   |cons z c=>
    simp only[db,oc] at e d ⊢;by_cases p:x.toNat<y.toNat;by_cases q:y.toNat<z.toNat;simp[show x.toNat<z.toNat by omega];by_cases q2:z.toNat<y.toNat;simp[q,q2] at d;simp[show x.toNat<z.toNat by omega];by_cases p2:y.toNat<x.toNat;simp[p,p2] at e;by_cases q:y.toNat<z.toNat;simp[show x.toNat<z.toNat by omega];by_cases q2:z.toNat<y.toNat;simp[q,q2] at d;simp only[p,p2,q,q2,dF,cF] at e d;simp only[show¬x.toNat<z.toNat by omega,show¬z.toNat<x.toNat by omega,dF,cF];exact f e d
def Ee(a b:ae×ae):iC a b=if db a.1 b.1=0 then db a.2 b.2 else db a.1 b.1:=by
 unfold iC;by_cases h:db a.1 b.1=0;have:an (db a.1 b.1) 0=true:=by simp[an,h]
 rw[this,iP h];rfl;have:an (db a.1 b.1) 0=false:=by simp[an,h]
 rw[this,iN h];rfl
def U6(a b:ae×ae):iC b a= -iC a b:=by
 rw[Ee,Ee,BO a.1 b.1,BO a.2 b.2];by_cases h:db a.1 b.1=0;rw[iP h,iP (by omega)];rw[iN h,iN (by omega)]
def U8{a b:ae×ae}(h:iC a b=0):a=b:=by
 rw[Ee] at h;by_cases h1:db a.1 b.1=0;rw[iP h1] at h;exact Prod.ext (uy h1) (uy h);rw[iN h1] at h;exact absurd h h1
def ahb(a:ae×ae):iC a a=0:=by
 rw[Ee,iP (Ec _),Ec]
def U7{a b c:ae×ae}(f:iC a b<0)(d:iC b c<0):iC a c<0:=by
 rw[Ee] at f d ⊢;by_cases p:db a.1 b.1=0;rw[iP p] at f;have e:=uy p;by_cases q:db b.1 c.1=0;rw[iP q] at d;rw[e,iP q];exact Ed f d;rw[iN q] at d;rw[e,iN q];exact d;rw[iN p] at f;by_cases q:db b.1 c.1=0;have e:=uy q;rw[<-e,iN p];exact f;rw[iN q] at d
 have:=Ed f d;rw[iN (by omega)];exact this
def Gk:SWO (ltOf iC) where
 irrefl x:=by simp[ltOf,ahb]
 trans x y z h1 h2:=by
  simp only[ltOf,dE] at*;exact U7 h1 h2
 ntrans x y z h1 h2:=by
  simp only[ltOf,decide_eq_false_iff_not] at*;intro h3;rcases Int.lt_trichotomy (iC x y) 0 with p|p|p
  exact h1 p;rw[U8 p] at h3;exact h2 h3;have a:iC y x<0:=by rw[U6 x y];omega
  exact h2 (U7 a h3)
def adc(x y:ae×ae)(b:ltOf iC x y=false)(a:ltOf iC y x=false):x=y:=by
 simp only[ltOf,decide_eq_false_iff_not] at b a;rw[U6 x y] at a;exact U8 (by omega)
def Zk(x y:ae×ae):I9 x y=ltOf iC x y:=rfl
def WM(x:ae×ae): ∀l:List (ae×ae),l.Pairwise (fun a b=>(!ltOf iC b a)=true)->(An x l).Pairwise (fun a b=>(!ltOf iC b a)=true)
 | [],_=>by simp[An]
 |y::l,h=>by
  simp only[An];cases e:I9 y x with
  |true=>
   refine sC.2 ⟨fun z c=>?_,WM x l (sC.1 h).2⟩;rcases dl.1 ((Nw x l).mem_iff.1 c) with rfl|c
   rw[Zk] at e;cases hc:ltOf iC z y with
   |false=>rfl
   |true=>have:=Gk.trans _ _ _ hc e;rw[Gk.irrefl] at this;cases this
   exact(sC.1 h).1 z c
  |false=>
   rw[Zk] at e;refine sC.2 ⟨fun z c=>?_,h⟩;rcases dl.1 c with rfl|c
   rw[e];rfl;have d:=(sC.1 h).1 z c;simp only[mQ] at d ⊢;exact Gk.ntrans _ _ _ d e
def acy: ∀l,(Dn l).Pairwise (fun a b=>(!ltOf iC b a)=true)
 | []=>.nil
 |x::l=>WM x _ (acy l)
def avM{l r:List (ae×ae)}(h:l.Perm r)(f:l.Pairwise (fun a b=>(!ltOf iC b a)=true))(e:r.Pairwise (fun a b=>(!ltOf iC b a)=true)):l=r:=by
 refine List.Perm.eq_of_pairwise (le:=fun a b=>(!ltOf iC b a)=true) (fun a b _ _ d c=>?_) f e h;simp only[mQ] at d c;exact adc a b c d
def G0:Gh:= {at_:=fun _=>none,ro:=fun _ _=>none,dim:=fun _=>none }
def adJ{a b:World}(g:a.heap=b.heap)(f:a.tape=b.tape)(e:a.drawn=b.drawn)(d:a.os=b.os)(c:a.output=b.output):a=b:=by
 obtain⟨_,_,_,_,_⟩:=a;obtain⟨_,_,_,_,_⟩:=b;cases g;cases f;cases e;cases d;cases c;rfl
end Go.Proofs.YtnnppcoplinajaaGreat
namespace Go.Proofs.YtnnppcoplinajaaGreat
open Go.Ag
def yC(mk:aI)(n m o l c:Nat)(s:St):iG ah mk 25 (.arr n m o l c) s=some (.int .i64 (l:Nat)):=by kernel_rfl
def uu(n:Nat):(aa.map n).cells=[.map n]:=rfl
