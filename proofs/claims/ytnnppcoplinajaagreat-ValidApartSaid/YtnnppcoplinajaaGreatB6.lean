/- Lemmas for ValidApart. -/
import Derived.Test.YtnnppcoplinajaaGreatB5
import Derived.Test.YtnnppcoplinajaaGreatB3
import Derived.Test.YtnnppcoplinajaaGreatB2
set_option linter.all false
open Bool renaming not_eq_true'→awP
open List renaming mem_cons→fc,pairwise_cons→sD
open Nat renaming ble_eq_true_of_le→cP,blt→bm,le_succ_of_le→cq,reduceAdd→bQ,reduceBEq→ah,reduceLT→aB,reduceLeDiff→cK
open Go.Proofs.Tryz renaming prog→ae
namespace Go.Proofs.YtnnppcoplinajaaGreat
open Go.Ag
variable{xs:List aa}{s:St}{ov:aa}
def Sh{t:TypeId}{E:EI}{sz lo:Nat}(p:lV ae t=some E)(u:E.n=sz)(o:E.b<=88){y:aa}{ys:List aa}(h:cR sz lo s ov xs)(l:eE [] E.g E.n y s=some ys)(d:ys≠ [])(a:xs.length+ys.length<=1000000)(m:s.gt<=s.aL):
 ∃c,fF ae [] t ov y false s=some (.list sz (xs++ys) (.own s.aL),c)/\c.get [] s.aL=some .tok/\c.ci=s.ci/\c.aL=s.aL+1/\c.gt<=c.aL/\(∀n,n<s.aL->(∀k,ov= .list sz xs (.own k)->n≠k)->c.get [] n=s.get [] n):=by
 subst u;have q:yL ov=true/\ov.cells=[ov]:=by rcases h with⟨rfl,_⟩|⟨_,k,rfl,_⟩<;>exact⟨rfl,rfl⟩
 cases ys with
 |nil=>exact absurd rfl d
 |cons j ys=>
  rcases h with⟨rfl,rfl⟩|⟨d,k,rfl,v,x,w⟩
  have e:jc (j::ys).length E.b=true:=vI (by simpa using a) o;refine⟨s.new .tok,?_,by rw[fk,bS];rfl,rfl,rfl,cq m,fun n i _=>?_⟩;simp only[akZ,fF,p,l,jG,kL,e,cF,List.nil_append];rw[fk,bN.2 (by omega)];rfl;have e:jc (xs.length+(j::ys).length) E.b=true:=vI a o;refine⟨(s.put k none).new .tok,?_,by rw[fk,lR,bS];rfl,rfl,rfl,cq (dh s k none m),fun n i f=>?_⟩;simp only[afo,fF,p,Option.bind_some,l,jG,v,e,Bool.and_self];rw[fk,lR,bN.2 (by omega),cF,aX,bN.2 (f k rfl)];rfl
def cR.token{sz lo:Nat}(h:cR sz lo s ov xs){k:Nat}(a:ov= .list sz xs (.own k)):lo<=k/\k<s.aL/\s.get [] k=some .tok:=by
 rcases h with⟨rfl,_⟩|⟨_,e,rfl,d,c,b⟩
 cases a;injection a with _ _ h;injection h with h;subst h;exact⟨c,b,d⟩
end Go.Proofs.YtnnppcoplinajaaGreat
namespace Go.Proofs.YtnnppcoplinajaaGreat
open Go.Ag
open Go.Sort (putRow grow Holds SWO HoldsK putRowK flatK get_flatK size_flatK)
def aAS{sp:SpZ}(e:sp 194=none)(d:sp 287=some awR)(a b:ag)(s:St):aq (QS sp) 194 [.str a,.str b] s (.int .i64 (dz a b)) s:=by
 have c:awR [.str a,.str b]=some (.int .i64 (dz a b)):=rfl;refine aq.of2 aze.1 aze.2 aze.3 aze.4 e ?_;refine W.sreg ?_;simp only[dJ,aaA,gI,aB,bQ,cK];refine W.sreg ?_;simp only[dJ,ah,aB,d,c];exact W.ret ⟨rfl,.inr rfl,dZ (by simp only[abc,ah, *]) rfl⟩
def aAR{sp:SpZ}(d:sp 109=none)(e:sp 194=none)(c:sp 287=some awR)(a b:ag)(s:St):aq (QS sp) 109 [.str a,.str b] s (.int .i64 (dz a b)) s:=by
 refine aq.of2 azc.1 azc.2 azc.3 azc.4 d ?_;refine W.sreg ?_;simp only[dJ,aaA,gI,aB,bQ,cK];refine W.seq (W.region (Lv 2 ?_));simp only[dJ,List.take,List.drop,ah,aB];refine Lu (g:=194) (args:=[.str a,.str b]) ?_ (aAS e c a b s) (by decide) ?_;simp only[dJ,callee,ah];refine Ls ?_;simp only[dJ,FlZ,ah,aB];exact W.ret ⟨rfl,.inr rfl,dZ (by simp only[abc,ah, *]) rfl⟩
def X32:dX:=[(287,awR)]
def aAC:dR X32:=.cons aAU .nil
theorem Pq(x y:Int):mz [x,y]=bif an x 0 then y else x:=by
 simp only[mz];cases h:an y 0 with
 |true=>
  have:y=0:=by simpa[an] using h
  subst this;cases an x 0<;>rfl
 |false=>cases an x 0<;>rfl
def En: ∀a:ag,dz a a=0
 | []=>rfl
 |x::a=>by
  have:bm x.toNat x.toNat=false:=by rw[jC];exact dN (Nat.lt_irrefl _)
  simp only[dz,this,cF,En a]
def TA(a b:ag):dz a b= -1\/dz a b=0\/dz a b=1:=by
 induction a generalizing b with
 |nil=>cases b<;>simp[dz]
 |cons x a c=>
  cases b with
  |nil=>simp[dz]
  |cons y b=>
   simp only[dz];cases bm x.toNat y.toNat with
   |true=>simp
   |false=>
    cases bm y.toNat x.toNat with
    |true=>simp
    |false=>exact c b
theorem B7(a b:ag):dz b a= -dz a b:=by
 induction a generalizing b with
 |nil=>cases b<;>rfl
 |cons x a e=>
  cases b with
  |nil=>rfl
  |cons y b=>
   simp only[dz];rcases Nat.lt_trichotomy x.toNat y.toNat with h|h|h
   have d:bm x.toNat y.toNat=true:=cP h;have c:bm y.toNat x.toNat=false:=by rw[jC];exact dN (by omega)
   rw[d,c];rfl;have d:bm x.toNat y.toNat=false:=by rw[jC];exact dN (by omega)
   have c:bm y.toNat x.toNat=false:=by rw[jC];exact dN (by omega)
   rw[d,c];exact e b;have d:bm x.toNat y.toNat=false:=by rw[jC];exact dN (by omega)
   have c:bm y.toNat x.toNat=true:=cP h;rw[d,c];rfl
theorem uU{a b:ag}(h:dz a b=0):a=b:=by
 induction a generalizing b with
 |nil=>cases b with
  |nil=>rfl
  |cons y b=>simp[dz] at h
 |cons x a c=>
  cases b with
  |nil=>simp[dz] at h
  |cons y b=>
   simp only[dz] at h;cases h1:bm x.toNat y.toNat with
   |true=>rw[h1] at h;simp at h
   |false=>
    rw[h1] at h;cases h2:bm y.toNat x.toNat with
    |true=>rw[h2] at h;simp at h
    |false=>
     rw[h2] at h;have e:x.toNat=y.toNat:=by
      rw[jC] at h1 h2
      have:=of_decide_eq_false h1
      have:=of_decide_eq_false h2;omega
     rw[UInt8.toNat_inj.1 e,c h]
theorem Eo{a b c:ag}(h1:dz a b<0)(d:dz b c<0):dz a c<0:=by
 induction a generalizing b c with
 |nil=>
  cases b with
  |nil=>simp[dz] at h1
  |cons y b=>
   cases c with
   |nil=>simp[dz] at d
   |cons z c=>simp[dz]
 |cons x a e=>
  cases b with
  |nil=>simp[dz] at h1
  |cons y b=>
   cases c with
   |nil=>simp[dz] at d
   |cons z c=>
    simp only[dz,jC] at h1 d ⊢;by_cases p:x.toNat<y.toNat;by_cases q:y.toNat<z.toNat;simp[show x.toNat<z.toNat by omega];by_cases q2:z.toNat<y.toNat;simp[q,q2] at d;simp[show x.toNat<z.toNat by omega];by_cases p2:y.toNat<x.toNat;simp[p,p2] at h1;by_cases q:y.toNat<z.toNat;simp[show x.toNat<z.toNat by omega];by_cases q2:z.toNat<y.toNat;simp[q,q2] at d;simp only[p,p2,q,q2,dF,cF] at h1 d;simp only[show¬x.toNat<z.toNat by omega,show¬z.toNat<x.toNat by omega,dF,cF];exact e h1 d
def Ep(a b:ag×ag):jm a b=if dz a.1 b.1=0 then dz a.2 b.2 else dz a.1 b.1:=by
 unfold jm;by_cases h:dz a.1 b.1=0;have:an (dz a.1 b.1) 0=true:=by simp[an,h]
 rw[this,iP h];rfl;have:an (dz a.1 b.1) 0=false:=by simp[an,h]
 rw[this,iN h];rfl
def TB(a b:ag×ag):jm b a= -jm a b:=by
 rw[Ep,Ep,B7 a.1 b.1,B7 a.2 b.2];by_cases h:dz a.1 b.1=0;rw[iP h,iP (by omega)];rw[iN h,iN (by omega)]
def TD{a b:ag×ag}(h:jm a b=0):a=b:=by
 rw[Ep] at h;by_cases h1:dz a.1 b.1=0;rw[iP h1] at h;exact Prod.ext (uU h1) (uU h);rw[iN h1] at h;exact absurd h h1
def aee(a:ag×ag):jm a a=0:=by
 rw[Ep,iP (En _),En]
def TC{a b c:ag×ag}(h1:jm a b<0)(d:jm b c<0):jm a c<0:=by
 rw[Ep] at h1 d ⊢;by_cases p:dz a.1 b.1=0;rw[iP p] at h1;have e:=uU p;by_cases q:dz b.1 c.1=0;rw[iP q] at d;rw[e,iP q];exact Eo h1 d;rw[iN q] at d;rw[e,iN q];exact d;rw[iN p] at h1;by_cases q:dz b.1 c.1=0;have e:=uU q;rw[<-e,iN p];exact h1;rw[iN q] at d
 have:=Eo h1 d;rw[iN (by omega)];exact this
def GN:SWO (ltOf jm) where
 irrefl x:=by simp[ltOf,aee]
 trans x y z h1 h2:=by
  simp only[ltOf,dE] at*;exact TC h1 h2
 ntrans x y z h1 h2:=by
  simp only[ltOf,decide_eq_false_iff_not] at*;intro h3;rcases Int.lt_trichotomy (jm x y) 0 with p|p|p
  exact h1 p;rw[TD p] at h3;exact h2 h3;have a:jm y x<0:=by rw[TB x y];omega
  exact h2 (TC a h3)
def aa8(x y:ag×ag)(h1:ltOf jm x y=false)(a:ltOf jm y x=false):x=y:=by
 simp only[ltOf,decide_eq_false_iff_not] at h1 a;rw[TB x y] at a;exact TD (by omega)
def Xz(x y:ag×ag):JE x y=ltOf jm x y:=rfl
def Vq(x:ag×ag): ∀l:List (ag×ag),l.Pairwise (fun a b=>(!ltOf jm b a)=true)->(AO x l).Pairwise (fun a b=>(!ltOf jm b a)=true)
 | [],_=>by simp[AO]
 |y::l,h=>by
  simp only[AO];cases e:JE y x with
  |true=>
   refine sD.2 ⟨fun z c=>?_,Vq x l (sD.1 h).2⟩;rcases fc.1 ((Nj x l).mem_iff.1 c) with rfl|c
   rw[Xz] at e;cases hc:ltOf jm z y with
   |false=>rfl
   |true=>have:=GN.trans _ _ _ hc e;rw[GN.irrefl] at this;cases this
   exact(sD.1 h).1 z c
  |false=>
   rw[Xz] at e;refine sD.2 ⟨fun z c=>?_,h⟩;rcases fc.1 c with rfl|c
   rw[e];rfl;have d:=(sD.1 h).1 z c;simp only[awP] at d ⊢;exact GN.ntrans _ _ _ d e
def aat: ∀l,(Dw l).Pairwise (fun a b=>(!ltOf jm b a)=true)
 | []=>.nil
 |x::l=>Vq x _ (aat l)
def aqW{l r:List (ag×ag)}(h:l.Perm r)(f:l.Pairwise (fun a b=>(!ltOf jm b a)=true))(e:r.Pairwise (fun a b=>(!ltOf jm b a)=true)):l=r:=by
 refine List.Perm.eq_of_pairwise (le:=fun a b=>(!ltOf jm b a)=true) (fun a b _ _ d c=>?_) f e h;simp only[awP] at d c;exact aa8 a b c d
def G0:Gh:= {at_:=fun _=>none,ro:=fun _ _=>none,dim:=fun _=>none }
def abv{a b:World}(h1:a.heap=b.heap)(f:a.tape=b.tape)(e:a.drawn=b.drawn)(d:a.os=b.os)(c:a.output=b.output):a=b:=by
 obtain⟨_,_,_,_,_⟩:=a;obtain⟨_,_,_,_,_⟩:=b;cases h1;cases f;cases e;cases d;cases c;rfl
end Go.Proofs.YtnnppcoplinajaaGreat
namespace Go.Proofs.YtnnppcoplinajaaGreat
open Go.Ag
def yQ(mk:aK)(n m o l c:Nat)(s:St):jo ae mk 25 (.arr n m o l c) s=some (.int .i64 (l:Nat)):=by kernel_rfl
def wJ(n:Nat):(aa.map n).cells=[.map n]:=rfl
