/- Lemmas for ValidParts. -/
import Derived.Test.YtnnppcoplinajaaGreatB8
import Derived.Test.YtnnppcoplinajaaGreatAg3
import Derived.Test.YtnnppcoplinajaaGreatB6
import Derived.Test.YtnnppcoplinajaaGreatB3
import Derived.Test.YtnnppcoplinajaaGreatZ1b
import Derived.Test.YtnnppcoplinajaaGreatB2
import Derived.Test.YtnnppcoplinajaaGreatB7
import Derived.Test.YtnnppcoplinajaaGreatB5
set_option linter.all false
open Bool renaming and_eq_true→bm,and_false→gh,and_self→bW,eq_iff_iff→xj,false_and→dA,false_or→hZ,not_true→jp,or_eq_false_iff→vE,true_or→gZ
open Int renaming lt_trichotomy→DH,mul_le_mul_of_nonneg_left→Kq
open List renaming all_cons→jq,mem_cons→dl,range→gV
open Nat renaming lt_irrefl→cq
open Go.Op renaming bytesLess→eR
open Option renaming bind_eq_some_iff→aj
open Prod.mk renaming injEq→bu
open Go.Ag.aq renaming of2→lu
open Go.Proofs.Tryz renaming prog→ah
namespace Go.Proofs.YtnnppcoplinajaaGreat
open Go.Ag
def apC:List Nat:=[0,1,3,7,7,31,63,127,7,7,519,1799,3847,7943,16383,32767,65535,131071,131071,524287,1048575,2097151,131071,131071,8519679,29491199,63045631,130154495,268435455,536870911,1073741823,2147483647,4294967295,8589934591,17179869183,34359738367]
def apD:List Nat:=[0,0,2,7,15,31,31,127,255,31,31,1567,3615,7711,16383,32767]
def apE:List Nat:=[0,0,2,7,15,31,63,127,255,511,1023,2047,2047,8191,16383,32767,65535,131071,262143,524287,524287,2097151,4194303,8388607,16777215,33554431,67108863,134217727,134217727,536870911,1073741823,2147483647,4294967295,8589934591,17179869183,34359738367,68719476735,68719476735,274877906943,549755813887,1099511627775,2199023255551,4398046511103,8796093022207,17592186044415,35184372088831,35184372088831,140737488355327,281474976710655,562949953421311,1125899906842623,2251799813685247,4503599627370495,9007199254740991,9007199254740991,36028797018963967,72057594037927935,144115188075855871,288230376151711743,576460752303423487,9007199254740991,9007199254740991,3467771713075281919,8079457731502669823,17302829768357445631,35749573842066997247,72643061989486100479,147573952589676412927,295147905179352825855,590295810358705651711]
def apF:List Nat:=[0,0,0,6,14,30,62,126,255,511,1023,2047,2047,2047,2047,26623,59391,131071,262143,524287]
def apG:List Nat:=[0,1,3,3,15,3,63,127,255,511,1023,2047,4095,8191,16383]
def k6:=({y:=_}:bw Tryz.f6 [apC,apD,apE,apF,apG]).1
def ayK:=({y:=_}:cr k6 [1,1,1,1,1,1,0,1,0,0,1,0,0,1,0,0,0]).1
def ayL:=({y:=_}:cr k6 [1,1,1,1,1,1,0,1,0,0]).1
def Xn:=({y:=_}:bw Tryz.f153 []).1
def ayD:=({y:=_}:cr Xn [1,0,1,0,0]).1
def anc:=({y:=_}:bw Tryz.f154 []).1
def ane:=({y:=_}:bw Tryz.f155 []).1
def aom:=({y:=_}:bw Tryz.f257 []).1
attribute[go_sem]k6 Xn anc ane aom
end Go.Proofs.YtnnppcoplinajaaGreat
set_option linter.defProp false
namespace Go.Proofs.YtnnppcoplinajaaGreat
open Go.Ag
attribute[go_sem]Sv Sw Sx ED xh aP aQ hG uu D8
def sN:=(⟨@iV, @cT.{1}, @cF.{1}⟩:_/\_/\_)
def sL:=(⟨sN, @gw, @gI, @bS.{0}⟩:_/\_/\_/\_)
def sG:=(⟨sL, @uM⟩:_/\_)
def sA:=(⟨@List.length_append.{0}, @List.length_cons.{0}, @List.length_nil.{0}⟩:_/\_/\_)
abbrev Pt:=Int×Int
abbrev bI:=Pt×Pt
def fP(a b c:Pt):Int:=(b.1-a.1)*(c.2-a.2)-(b.2-a.2)*(c.1-a.1)
def da(a b c:Pt):Int:=iO (fP a b c) 0
def f9(s:bI):bI:=bif aV 0 (fk s.1 s.2) then(s.2,s.1) else s
def rT(s:bI)(p:Pt):Bool:=an (da (f9 s).1 (f9 s).2 p) 0&&(bV (fk (f9 s).1 p) 0&&(bV (fk p (f9 s).2) 0&&(!fp (f9 s).1 (f9 s).2||fp p (f9 s).1)))
def rJ(s t:bI):Pt:=bif aV 0 (fk t.1 s.1) then t.1 else s.1
def rF(s t:bI):Pt:=bif aV (fk t.2 s.2) 0 then t.2 else s.2
def wV(s t:bI):Int:=bif fp s.1 s.2 then bif rT t s.1 then bif fp s.1 t.1||fp s.1 t.2 then 1 else 2 else 0
 else bif an (fk (rJ s t) (rF s t)) (-1) then 5 else bif an (fk (rJ s t) (rF s t)) 0 then 1 else 0
def u7(s t:bI):Int:=bif fp t.1 t.2 then wV t s else wV s t
def sh(s t:bI):Bool:=fp s.1 t.1&&fp s.2 t.2
def qq(s t:bI):Int:=
 bif aV 0 (da s.1 s.2 t.1*da s.1 s.2 t.2)||aV 0 (da t.1 t.2 s.1*da t.1 t.2 s.2) then 0
 else bif aV (da s.1 s.2 t.1*da s.1 s.2 t.2) 0&&aV (da t.1 t.2 s.1*da t.1 t.2 s.2) 0 then 3
 else bif an (da s.1 s.2 t.1*da s.1 s.2 t.2) 0&&an (da t.1 t.2 s.1*da t.1 t.2 s.2) 0 then 1 else 2
def kP(s t:bI):Bool:=fp s.1 s.2||fp t.1 t.2||(an (da s.1 s.2 t.1) 0&&an (da s.1 s.2 t.2) 0)
def qH(s t:bI):Int:=bif sh s t then 4 else bif kP s t then u7 s t else qq s t
def gX(s t:bI):Int:=qH (f9 s) (f9 t)
def gA(a b:Pt):Prop:=a.1<b.1\/(a.1=b.1/\a.2<=b.2)
def we(a b:Pt):(fk a b= -1/\gA a b/\a≠b)\/(fk a b=0/\a=b)\/(fk a b=1/\gA b a/\a≠b):=by
 obtain⟨e,i⟩:=a;obtain⟨d,g⟩:=b;simp only[fk,uK,iO,aV,an,gA,bu,ne_eq];rcases DH e d with h|h|h
 have: ¬d<e:=by omega
 simp[h];omega;subst h;rcases DH i g with h|h|h
 simp[h];omega;subst h;simp;have: ¬i<g:=by omega
 simp[h,this];omega;have: ¬e<d:=by omega
 simp[h,this];omega
variable{a b:Pt}
def tK:fp a b=true↔a=b:=by
 obtain⟨h,g⟩:=a;obtain⟨e,d⟩:=b;simp only[fp,an,bu];by_cases h1:h=e<;>by_cases h2:g=d<;>simp[h1,h2]
def abz(a b:Pt):fp a b=fp b a:=by
 rw[xj,tK,tK];exact eq_comm
def YZ(a b:Pt):gA a b\/gA b a:=by
 simp only[gA];omega
def IZ(h:gA a b)(k:gA b a):a=b:=by
 obtain⟨i,g⟩:=a;obtain⟨e,d⟩:=b;simp only[gA,bu] at*;omega
def acD(s:bI):gA (f9 s).1 (f9 s).2:=by
 unfold f9;rcases we s.1 s.2 with⟨h,k,_⟩|⟨h,k⟩|⟨h,k,_⟩<;>rw[h]
 exact k;show gA s.1 s.2;rw[k];simp[gA];exact k
def Rf(s:bI):(f9 s=s)\/(f9 s=(s.2,s.1)):=by
 unfold f9;cases aV 0 (fk s.1 s.2)<;>simp
def amk:bV (fk a b) 0=true↔gA a b:=by
 rcases we a b with⟨h,k,_⟩|⟨h,k⟩|⟨h,k,n⟩<;>rw[h]
 simp[bV,k];subst k;simp[bV,gA];simp only[bV];constructor;intro h;simp at h;intro d;exact absurd (IZ d k) n
def BM(a:Int):(iO a 0= -1/\a<0)\/(iO a 0=0/\a=0)\/(iO a 0=1/\0<a):=by
 unfold iO aV;rcases DH a 0 with h|h|h
 simp[h];subst h;simp;have: ¬a<0:=by omega
 simp[h,this]
def boxes(s t:bI):Prop:=(min s.1.1 s.2.1<=max t.1.1 t.2.1/\min t.1.1 t.2.1<=max s.1.1 s.2.1)/\(min s.1.2 s.2.2<=max t.1.2 t.2.2/\min t.1.2 t.2.2<=max s.1.2 s.2.2)
theorem uC{D p q c d a b:Int}(w:0<D)(j:0<=p)(i:p<=D)(g:0<=q)(e:q<=D)(h:D*c+p*(d-c)=D*a+q*(b-a)):min c d<=max a b:=by
 by_cases hc:min c d<=max a b;exact hc;exfalso;have u:max a b+1<=c:=by omega
 have o:max a b+1<=d:=by omega
 have m:a<=max a b:=by omega
 have k:b<=max a b:=by omega
 generalize max a b=M at*;have C:=Kq u (show 0<=D-p by omega);have B:=Kq o j;have A:=Kq m (show 0<=D-q by omega);have z:=Kq k g
 grind
variable{p:Pt}
theorem Nu(m:gA a p)(k:gA p b)(h:fP a b p=0):(a.1<=p.1/\p.1<=b.1)/\(min a.2 b.2<=p.2/\p.2<=max a.2 b.2):=by
 have g:a.1<=p.1/\p.1<=b.1:=by
  simp only[gA] at*;omega
 refine⟨g,?_⟩;by_cases e:a.1=b.1;simp only[gA] at*;omega;have d:(b.1-a.1)*p.2+0*(p.2-p.2)=(b.1-a.1)*a.2+(p.1-a.1)*(b.2-a.2):=by
  simp only[fP] at h;grind
 have j:=uC (show 0<b.1-a.1 by omega) (Int.le_refl 0) (by omega) (by omega) (by omega) d;have i:=uC (show 0<b.1-a.1 by omega) (show 0<=p.1-a.1 by omega) (by omega) (Int.le_refl 0) (by omega) d.symm;omega
variable{c:Pt}
theorem Mg{d:Pt}(w:a≠b)(A:fP a b c=0)(z:fP a b d=0):fP c d a=0/\fP c d b=0:=by
 obtain⟨e,h⟩:=a;obtain⟨m,k⟩:=b;obtain⟨j,F⟩:=c;obtain⟨i,E⟩:=d;simp only[fP,ne_eq,bu] at*;by_cases hx:m-e=0;have u:k-h≠0:=by omega
 rw[hx] at A z;have q:(k-h)*(j-e)=0:=by omega
 have o:(k-h)*(i-e)=0:=by omega
 have q:=(Int.mul_eq_zero.1 q).resolve_left u;have o:=(Int.mul_eq_zero.1 o).resolve_left u;have D:j=e:=by omega
 have C:i=e:=by omega
 have B:m=e:=by omega
 subst D;subst C;subst B;simp;have g:(m-e)*((j-e)*(E-h)-(F-h)*(i-e))=0:=by grind
 have g:=(Int.mul_eq_zero.1 g).resolve_left hx;constructor<;>grind
theorem ahA{d:Pt}(N: ¬(fP a b c=0/\fP a b d=0))(C: ¬0<da a b c*da a b d)(B: ¬0<da c d a*da c d b):boxes (a,b) (c,d):=by
 obtain⟨h,g⟩:=a;obtain⟨o,m⟩:=b;obtain⟨j,i⟩:=c;obtain⟨u,q⟩:=d;have K:fP (h,g) (o,m) (u,q)-fP (h,g) (o,m) (j,i)=fP (j,i) (u,q) (h,g)-fP (j,i) (u,q) (o,m):=by
  simp only[fP];grind
 have G:(fP (h,g) (o,m) (u,q)-fP (h,g) (o,m) (j,i))*j+(-fP (h,g) (o,m) (j,i))*(u-j)=(fP (h,g) (o,m) (u,q)-fP (h,g) (o,m) (j,i))*h+fP (j,i) (u,q) (h,g)*(o-h):=by
  simp only[fP];grind
 have F:(fP (h,g) (o,m) (u,q)-fP (h,g) (o,m) (j,i))*i+(-fP (h,g) (o,m) (j,i))*(q-i)=(fP (h,g) (o,m) (u,q)-fP (h,g) (o,m) (j,i))*g+fP (j,i) (u,q) (h,g)*(m-g):=by
  simp only[fP];grind
 simp only[da] at C B;generalize fP (h,g) (o,m) (j,i)=m1 at*;generalize fP (h,g) (o,m) (u,q)=m2 at*;generalize fP (j,i) (u,q) (h,g)=l1 at*;generalize fP (j,i) (u,q) (o,m)=l2 at*;have J:(m1<=0/\0<=m2)\/(m2<=0/\0<=m1):=by
  rcases BM m1 with⟨e,k⟩|⟨e,k⟩|⟨e,k⟩<;>rcases BM m2 with⟨w,z⟩|⟨w,z⟩|⟨w,z⟩<;>rw[e,w] at C<;>first|omega|(exfalso;exact C (by decide))
 have I:(l1<=0/\0<=l2)\/(l2<=0/\0<=l1):=by
  rcases BM l1 with⟨e,k⟩|⟨e,k⟩|⟨e,k⟩<;>rcases BM l2 with⟨w,z⟩|⟨w,z⟩|⟨w,z⟩<;>rw[e,w] at B<;>first|omega|(exfalso;exact B (by decide))
 have H:m2-m1≠0:=by omega
 rcases Int.lt_or_gt_of_ne H with M|A
 have E:(-(m2-m1))*j+m1*(u-j)=(-(m2-m1))*h+(-l1)*(o-h):=by grind
 have D:(-(m2-m1))*i+m1*(q-i)=(-(m2-m1))*g+(-l1)*(m-g):=by grind
 exact⟨⟨uC (by omega) (by omega) (by omega) (by omega) (by omega) E.symm,uC (by omega) (by omega) (by omega) (by omega) (by omega) E⟩,uC (by omega) (by omega) (by omega) (by omega) (by omega) D.symm,uC (by omega) (by omega) (by omega) (by omega) (by omega) D⟩;exact⟨⟨uC A (by omega) (by omega) (by omega) (by omega) G.symm,uC A (by omega) (by omega) (by omega) (by omega) G⟩,uC A (by omega) (by omega) (by omega) (by omega) F.symm,uC A (by omega) (by omega) (by omega) (by omega) F⟩
def FN:an (da a b c) 0=true↔fP a b c=0:=by
 simp only[da];rcases BM (fP a b c) with⟨e,k⟩|⟨e,k⟩|⟨e,k⟩<;>rw[e]
 simp only[an];constructor;intro h;simp at h;intro h;omega;simp[an,k];simp only[an];constructor;intro h;simp at h;intro h;omega
variable{s t:bI}
def LP(h:boxes s t):boxes t s:=⟨h.1.symm,h.2.symm⟩
def Ql(h:(s.1.1<=p.1/\p.1<=s.2.1)/\(min s.1.2 s.2.2<=p.2/\p.2<=max s.1.2 s.2.2))(d:p=t.1):boxes s t:=by
 subst d;simp only[boxes];omega
def asu(d:gA s.1 s.2)(h:rT s p=true):(s.1.1<=p.1/\p.1<=s.2.1)/\(min s.1.2 s.2.2<=p.2/\p.2<=max s.1.2 s.2.2):=by
 have e:f9 s=s:=by
  unfold f9;rcases we s.1 s.2 with⟨h,_⟩|⟨h,_⟩|⟨h,k,n⟩<;>rw[h]
  rfl;rfl;exact absurd (IZ d k) n
 simp only[rT,e,bm,FN,amk] at h;exact Nu h.2.1 h.2.2.1 h.1
def aqS(B:gA s.1 s.2)(A:gA t.1 t.2)(h:gA (rJ s t) (rF s t)):(gA s.1 t.1/\gA t.1 s.2)\/(gA t.1 s.1/\gA s.1 t.2):=by
 obtain⟨⟨z,w⟩,u,q⟩:=s;obtain⟨⟨o,m⟩,k,j⟩:=t;simp only[rJ,rF] at h;rcases we (o,m) (z,w) with⟨e,i,_⟩|⟨e,i⟩|⟨e,i,_⟩<;>rcases we (k,j) (u,q) with⟨d,g,_⟩|⟨d,g⟩|⟨d,g,_⟩<;>rw[e,d] at h<;>
  simp only[aV,gA,bu] at* <;>simp at h<;>omega
def aq3(o:gA s.1 s.2)(j:gA t.1 t.2)(h:qH s t≠0):boxes s t:=by
 unfold qH at h;cases h1:sh s t with
 |true=>
  simp only[sh,bm,tK] at h1;simp only[boxes,h1.1,h1.2];omega
 |false=>
  rw[h1] at h;simp only[cF] at h;have m: ∀ {s t:bI},gA s.1 s.2->gA t.1 t.2->fp s.1 s.2=true->wV s t≠0->boxes s t:=by
   intro s t o j i h;unfold wV at h;rw[i] at h;cases ho:rT t s.1 with
   |false=>rw[ho] at h;exact absurd rfl h
   |true=>exact LP (Ql (asu j ho) rfl)
  cases h2:kP s t with
  |true=>
   rw[h2] at h;simp only[cT,u7] at h;cases i:fp t.1 t.2 with
   |true=>
    rw[i] at h;exact LP (m j o i h)
   |false=>
    rw[i] at h;simp only[cF] at h;cases hd2:fp s.1 s.2 with
    |true=>exact m o j hd2 h
    |false=>
     unfold wV at h;rw[hd2] at h;simp only[kP,i,hd2,hZ,bm,FN] at h2;have z:s.1≠s.2:=fun e=>by rw[tK.2 e] at hd2;cases hd2
     have q:=Mg z h2.1 h2.2;have A:gA (rJ s t) (rF s t):=by
      rcases we (rJ s t) (rF s t) with⟨e,k,_⟩|⟨e,k⟩|⟨e,k,_⟩
      exact k;rw[k];simp[gA];rw[e] at h;exact absurd rfl h
     rcases aqS o j A with⟨w,u⟩|⟨w,u⟩
     exact Ql (Nu w u h2.1) rfl;exact LP (Ql (Nu w u q.1) rfl)
  |false=>
   rw[h2] at h;simp only[cF] at h;simp only[kP,vE] at h2;obtain⟨_,g⟩:=h2;unfold qq at h;cases h4:(aV 0 (da s.1 s.2 t.1*da s.1 s.2 t.2)||aV 0 (da t.1 t.2 s.1*da t.1 t.2 s.2)) with
   |true=>rw[h4] at h;exact absurd rfl h
   |false=>
    simp only[vE,aV,decide_eq_false_iff_not] at h4;refine ahA (a:=s.1) (b:=s.2) (c:=t.1) (d:=t.2) (fun q=>?_) h4.1 h4.2;rw[Bool.and_eq_false_iff] at g;rcases g with g|g
    rw[FN.2 q.1] at g;cases g;rw[FN.2 q.2] at g;cases g
def aq7(h:gX s t≠0):boxes s t:=by
 have g:=aq3 (acD s) (acD t) h;rcases Rf s with e|e<;>rcases Rf t with d|d<;>rw[e,d] at g<;>simp only[boxes] at* <;>omega
def xY(h:gA a b)(n:a≠b):fk a b= -1/\fk b a=1:=by
 constructor;rcases we a b with⟨e,_⟩|⟨_,e⟩|⟨_,k,_⟩
 exact e;exact absurd e n;exact absurd (IZ h k) n;rcases we b a with⟨_,k,_⟩|⟨_,e⟩|⟨e,_⟩
 exact absurd (IZ h k) n;exact absurd e.symm n;exact e
def aqR:rJ s t=rJ t s:=by
 unfold rJ;by_cases h:s.1=t.1;rw[h];rcases YZ s.1 t.1 with k|k
 rw[(xY k h).1,(xY k h).2];rfl;rw[(xY k (Ne.symm h)).1,(xY k (Ne.symm h)).2];rfl
def akA:rF s t=rF t s:=by
 unfold rF;by_cases h:s.2=t.2;rw[h];rcases YZ s.2 t.2 with k|k
 rw[(xY k h).1,(xY k h).2];rfl;rw[(xY k (Ne.symm h)).1,(xY k (Ne.symm h)).2];rfl
def aam(h:s.1=s.2)(d:p≠s.1):rT s p=false:=by
 have e:f9 s=s:=by
  unfold f9;rcases we s.1 s.2 with⟨_,_,k⟩|⟨e,_⟩|⟨_,_,k⟩
  exact absurd h k;rw[e];rfl;exact absurd h k
 have i:fp s.1 s.2=true:=tK.2 h;have g:fp p s.1=false:=by
  cases hb:fp p s.1 with
  |true=>exact absurd (tK.1 hb) d
  |false=>rfl
 simp only[rT,e,i,g,jp,Bool.or_self,gh]
def asq(g:fp s.1 s.2=false)(d:fp t.1 t.2=false):kP s t=kP t s:=by
 have j:s.1≠s.2:=fun e=>by rw[tK.2 e] at g;cases g
 have i:t.1≠t.2:=fun e=>by rw[tK.2 e] at d;cases d
 simp only[kP,g,d,hZ];rw[xj];simp only[bm,FN];exact⟨fun h=>Mg j h.1 h.2,fun h=>Mg i h.1 h.2⟩
def aq4(s t:bI):qH s t=qH t s:=by
 unfold qH;have k:sh s t=sh t s:=by simp only[sh,abz s.1 t.1,abz s.2 t.2]
 rw[k];cases h1:sh t s with
 |true=>rfl
 |false=>
  simp only[cF];cases hs:fp s.1 s.2 with
  |true=>
   have g:kP s t=true:=by simp only[kP,hs,gZ]
   have d:kP t s=true:=by simp only[kP,hs,Bool.or_true,gZ]
   rw[g,d];simp only[cT,u7,hs];cases ht:fp t.1 t.2 with
   |false=>simp only[cF]
   |true=>
    have j:=tK.1 hs;have i:=tK.1 ht;have h:s.1≠t.1:=fun e=>by
     have:sh t s=true:=by
      simp only[sh,bm,tK,<-j,<-i,e,and_self]
     rw[this] at h1;cases h1
    simp only[cT,wV,hs,ht,aam j (Ne.symm h),aam i h,cF]
  |false=>
   cases ht:fp t.1 t.2 with
   |true=>
    have g:kP s t=true:=by simp only[kP,ht,Bool.or_true,gZ]
    have d:kP t s=true:=by simp only[kP,ht,gZ]
    rw[g,d];simp only[cT,u7,hs,ht,cF]
   |false=>
    rw[asq hs ht];cases kP t s with
    |true=>simp only[cT,u7,wV,hs,ht,cF,aqR (s:=s) (t:=t),akA (s:=s) (t:=t)]
    |false=>
     simp only[cF,qq];rw[Bool.or_comm (aV 0 (da s.1 s.2 t.1*da s.1 s.2 t.2)),Bool.and_comm (aV (da s.1 s.2 t.1*da s.1 s.2 t.2) 0),Bool.and_comm (an (da s.1 s.2 t.1*da s.1 s.2 t.2) 0)]
def Pr(s t:bI):gX s t=gX t s:=aq4 _ _
theorem PU: ∀(l:List Obj) (last:ae),nh last l=true-> ∀q∈l,lR q.gT=true
 | [],_,_,q,h=>by cases h
 |o::r,last,h,q,e=>by
  simp only[nh] at h;cases hb: !fS o||Ag.leBytes o.id last with
  |true=>rw[hb] at h;cases h
  |false=>
   rw[hb] at h;rcases dl.1 e with rfl|e
   have d:fS q=true:=by
    cases d:fS q with
    |true=>rfl
    |false=>rw[d] at hb;cases hb
   unfold fS at d;cases hh:nX q with
   |true=>rw[hh] at d;cases d
   |false=>
    unfold nX at hh;simp only[vE,Bool.not_eq_false'] at hh;exact hh.1.1.2
   exact PU r o.id h q e
def aym:RX.Al:=(GZ (v:=RX.val) (by kernel_rfl)).2
def AE(q:Option Obj):Obj:=q.getD RX
def not_le{a b:ae}(h:eR a b=true):Ag.leBytes b a=false:=by
 rw[Pf] at h;simpa using h
def ar7{q:Obj}:fS q=true↔nX q=false/\o9 q.uP [] [] q.gE=false/\(bif an q.uP 1 then(q.gE.length==0)&&qL q.x q.y else bif an q.uP 5 then(q.gE.length==3)&&DC q else DC q)=true:=by
 unfold fS;cases nX q with
 |true=>simp
 |false=>cases o9 q.uP [] [] q.gE<;>simp
def Jo: ∀(l:List Obj) (last:ae),nh last l=true-> ∀q∈l,fS q=true
 | [],_,_,q,h=>by cases h
 |o::r,last,h,q,d=>by
  simp only[nh] at h;cases hb:(!fS o||Ag.leBytes o.id last) with
  |true=>rw[hb] at h;cases h
  |false=>
   rw[hb] at h;rcases dl.1 d with rfl|d
   simp only[vE,Bool.not_eq_false'] at hb;exact hb.1;exact Jo r o.id h q d
def aab: ∀(l:List Obj) (last:ae),(∀q∈l,fS q=true)->(∀k∈l.map (·.id),eR last k=true)->(l.map (·.id)).Pairwise (fun a b=>eR a b=true)->nh last l=true
 | [],_,_,_,_=>rfl
 |o::r,last,h,h1,h2=>by
  rw[List.map_cons,List.pairwise_cons] at h2;have e:(!fS o||Ag.leBytes o.id last)=false:=by
   rw[h o (by simp),not_le (h1 o.id (by simp))];rfl
  simp only[nh,e,cF];exact aab r o.id (fun q d=>h q (by simp[d])) h2.1 h2.2
def BN: ∀(a b:ae),db a b<0↔eR a b=true
 | [],[]=>by simp[db,Go.Proofs.bytesLess_eq]
 | [],y::b=>by rw[Go.Proofs.bytesLess_eq,dE];simp[db]
 |x::a,[]=>by rw[Go.Proofs.bytesLess_eq,dE];simp[db]
 |x::a,y::b=>by
  have d:=BN a b;rw[Go.Proofs.bytesLess_eq,dE] at d ⊢;rw[List.cons_lt_cons_iff,UInt8.lt_iff_toNat_lt,<-UInt8.toNat_inj];simp only[db,oc];rcases Nat.lt_trichotomy x.toNat y.toNat with h|h|h
  simp[h];simp only[h,cq,dF,cF,false_or,tA];exact d;simp only[go_sem,h,show¬x.toNat<y.toNat by omega,show¬x.toNat=y.toNat by omega,false_and,iff_false];omega
def aqb{a b:ae}(h:eR a b=true):eR b a=false:=by
 rw[Go.Proofs.bytesLess_eq,dE] at h;rw[Go.Proofs.bytesLess_eq];exact dN (List.lt_asymm h)
def ag4(a b:ae):fI b a= -fI a b:=by
 unfold fI;cases h:eR a b with
 |true=>rw[aqb h];rfl
 |false=>cases eR b a<;>rfl
def U4{a b:ae}(h:fI a b=0):a=b:=by
 unfold fI at h;cases h1:eR a b with
 |true=>rw[h1] at h;simp at h
 |false=>
  cases h2:eR b a with
  |true=>rw[h1,h2] at h;simp at h
  |false=>
   rw[Go.Proofs.bytesLess_eq] at h1 h2;exact List.le_antisymm (List.not_lt.1 (of_decide_eq_false h2)) (List.not_lt.1 (of_decide_eq_false h1))
def amj(a:Int):an (-a) 0=an a 0:=by
 by_cases h:a=0;subst h;rfl;rw[nY h,nY (by omega)]
theorem BP: ∀a b:List ae,eO b a= -eO a b
 | [],[]=>rfl
 | [],_::_=>rfl
 |_::_,[]=>rfl
 |a::x,b::y=>by
  simp only[eO,ag4 a b,amj,BP x y];cases an (fI a b) 0<;>rfl
theorem Md: ∀ {a b:List ae},eO a b=0->a=b
 | [],[],_=>rfl
 | [],_::_,h=>by simp[eO] at h
 |_::_,[],h=>by simp[eO] at h
 |a::x,b::y,h=>by
  simp only[eO] at h;by_cases hz:fI a b=0;rw[hz] at h;rw[U4 hz,Md (a:=x) (b:=y) (by simpa[an] using h)];rw[nY hz] at h;exact absurd h hz
def gz(k:ae):List fO->Option ae
 | []=>none
 |t::l=>bif t.1==k then some t.2 else gz k l
def CB(a b:ae):ae:=bif Ag.leBytes a b then a else b
def Cz(a b:ae):ae:=bif eR a b then b else a
def ey(a b:ae):ae×ae:=(CB a b,Cz a b)
def mZ(m:List Obj)(r:ae):Int:=match cj r m with|some q=>q.uP|none=>0
def di(m:List Obj)(r:ae):Bool:=an (mZ m r) 1
def dS(m:List Obj)(r:ae):Pt:=match cj r m with|some q=>(q.x,q.y)|none=>(0,0)
def kh(o:Obj):List (ae×ae):=(o.gE.zip (o.gE.tail++(bif an o.uP 3 then o.gE.take 1 else []))).map fun p=>ey p.1 p.2
def tD(m:List Obj)(o:Obj):Bool:=(an o.uP 2||an o.uP 3)&&o.gE.all (di m)
def fR(m:List Obj)(o:Obj):List (ae×ae):=bif tD m o then kh o else []
def jm(m:List Obj)(k:ae×ae):bI:=(dS m k.1,dS m k.2)
def nu{α:Type}:List α->List (α×α)
 | []=>[]
 |a::l=>l.map (fun b=>(a,b))++nu l
def iI(p:ae×ae):List ae:=bif p.1==p.2 then [p.1] else [p.1,p.2]
def bf(p:Pt):Bool:= !aV 2097152 (max p.1 p.2)&& !aV (min p.1 p.2) (-2097152)
def oX(r:List Pt):Bool:=decide (3<=r.length)&&(decide (r.length<=2000)&&r.all bf)
def fK(r:List Pt):List bI:=r.zip (r.tail++r.take 1)
def eD(r:List Pt)(i:Nat):bI:=((r[i]?).getD (0,0),(r[(i+1) % r.length]?).getD (0,0))
def nj(r:List Pt)(i k:Nat):Bool:=bif(i-k==1||i-k==r.length-1) then an (gX (eD r i) (eD r k)) 1 else an (gX (eD r i) (eD r k)) 0
def jR(r:List Pt):Bool:=oX r&&((gV r.length).all fun i=>(gV i).all fun k=>nj r i k)
def vu(a b c:Pt):Int:=(b.1-a.1)*(c.2-b.2)-(b.2-a.2)*(c.1-b.1)
def rm(a n b:Int):Bool:=decide (min a b<=n)&&decide (n<=max a b)
def AH(s:bI)(p:Pt):Bool:=an (vu s.1 s.2 p) 0&&(rm s.1.1 p.1 s.2.1&&rm s.1.2 p.2 s.2.2)
def vC(s:bI)(p:Pt):Int:=bif bV s.1.2 p.2&&(aV p.2 s.2.2&&aV 0 (vu s.1 s.2 p)) then 1 else bif aV p.2 s.1.2&&(bV s.2.2 p.2&&aV (vu s.1 s.2 p) 0) then-1 else 0
def yE(p:Pt):List bI->Int->Int
 | [],w=>bif an w 0 then-1 else 1
 |s::l,w=>bif AH s p then 0 else yE p l (w+vC s p)
def qB(r:List Pt)(p:Pt):Int:=yE p (fK r) 0
def si(r:List Pt)(p:Pt):Int:=bif jR r&&bf p then qB r p else-1
def oI(r:List Pt):List Pt:=r.map fun p=>(2*p.1,2*p.2)
def zY(r s:List Pt)(v:Int):Nat:=((fK r).filter fun x=>an (qB (oI s) (x.1.1+x.2.1,x.1.2+x.2.2)) v).length
def om(a b:bI):Bool:=an (gX a b) 2||(an (gX a b) 3||an (gX a b) 5)
def pN(r s:List Pt):Int:=
 bif !(jR r&&jR s) then 0 else
 bif(fK r).any (fun a=>(fK s).any fun b=>om a b) then 0 else
 bif(decide (0<zY r s 1)&&decide (0<zY r s (-1)))||(decide (0<zY s r 1)&&decide (0<zY s r (-1))) then 0 else
 bif decide (0<zY r s 1) then 2 else
 bif decide (0<zY s r 1) then 3 else
 bif decide (0<zY r s (-1)) then 1 else 4
def tP(m:List Obj)(o:Obj):Option (List Pt):=bif an o.uP 3&&o.gE.all (di m) then some (o.gE.map (dS m)) else none
def pL(m:List Obj)(o:Obj):Option (List Pt):=(tP m o).bind fun r=>bif jR r then some r else none
def mF(m:List Obj)(id:ae):Option (List Pt):=(cj id m).bind (pL m)
def i9(m:List Obj)(r:ae):Option (List ae):=(cj r m).bind fun q=>bif an q.uP 2&&q.gE.all (di m) then some q.gE else none
def pU(m:List Obj)(o:Obj):Bool:=((gV o.gE.length).zip o.gE).all fun p=>bif an o.uP 5&&p.1==1 then di m p.2 else(i9 m p.2).isSome
def z8(l:List ae):ae×ae:=(l.headD [],l.getLastD [])
def A5(d:ae×ae×Bool×Bool)(e:ae×ae):ae×ae×Bool×Bool:=
 (e.1,e.2,((d.2.2.1&&d.1==e.2)||(d.2.2.2&&d.2.1==e.2)),((d.2.2.1&&d.1==e.1)||(d.2.2.2&&d.2.1==e.1)))
def x5(m:List Obj)(o:Obj):Bool:=match o.gE.map fun r=>z8 ((i9 m r).getD []) with
 | []=>true
 |e::l=>(l.foldl A5 (e.1,e.2,true,true)).2.2.1||(l.foldl A5 (e.1,e.2,true,true)).2.2.2
def zf(m:List Obj)(o:Obj):Bool:=((i9 m (o.gE.getD 0 [])).getD []).contains (o.gE.getD 1 [])&&((i9 m (o.gE.getD 2 [])).getD []).contains (o.gE.getD 1 [])
def kj(k:Int)(i:Nat):Int:=bif an k 4||(an k 5&& !(i==1)) then 2 else 1
def FY(m:List Obj)(o:Obj):Bool:=((gV o.gE.length).zip o.gE).all fun p=>an (mZ m p.2) (kj o.uP p.1)
structure aG where
 strict:Bool
 area:ae
 uP:Int
 ifK:ae
 ifV:ae
 op:Int
 key:ae
 valuesV:aa
 values:List ae
def tq(s:ae):Bool:= !(s== [])&&decide (s.length<=200)
def tQ(x:aG):Bool:=
 bif !(x.area== [])&& !jA x.area then false else bif aV x.uP 0 then false else bif aV 5 x.uP then false else bif !jA x.key then false else
 bif !((x.ifK== [])&&(x.ifV== []))&& !(jA x.ifK&&tq x.ifV) then false else
 bif !(an x.op 2)&&(!(an x.op 1)&& !(an x.op 3)) then false else bif !(an x.op 2==decide (0<x.values.length)) then false else bif decide (60<x.values.length) then false else
 x.values.all tq
def ol(l:List aG):Bool:=decide (l.length<=200)&&l.all tQ
def uV(x:aG)(o:Obj):Bool:=bif an x.op 3 then(gz x.key o.gT).isNone else bif an x.op 2 then(match gz x.key o.gT with|some v=>x.values.contains v|none=>true) else(gz x.key o.gT).isSome
def Mj(x:aG)(o:Obj):Bool:=(an x.uP 0||an x.uP o.uP)&&((x.ifK== [])||gz x.ifK o.gT==some x.ifV)
def y8:ae:=[118,105,101,119]
def adp(o:Obj):Option ae:=(gz y8 o.gT).bind fun s=>bif jA s then some s else none
def yu(name:ae)(o:Obj):Bool:=match adp o with|some s=>s==name|none=>true
def gJ(m:List Obj)(name:ae):List Obj:=m.filter (yu name)
def ld:List ae->List ae->Bool
 | [],[]=>false
 | [],_::_=>true
 |_::_,[]=>false
 |a::x,b::y=>bif a==b then ld x y else eR a b
def ag6(a:ae):fI a a=0:=by unfold fI;rw[Y4];rfl
def ag3(a b:ae):aV (fI a b) 0=eR a b:=by
 unfold fI;cases eR a b with
 |true=>rfl
 |false=>cases eR b a<;>rfl
def LK: ∀a b:List ae,ld a b=aV (eO a b) 0
 | [],[]=>rfl
 | [],_::_=>rfl
 |_::_,[]=>rfl
 |a::x,b::y=>by
  simp only[ld,eO];by_cases h:a=b;subst h;rw[bS,ag6];exact LK x y;have d:fI a b≠0:=fun e=>h (U4 e);rw[bN.2 h,nY d];exact(ag3 a b).symm
def tj(a b:List ae):Bool:= !ld a b&& !ld b a
def ahk(a:List ae):eO a a=0:=by have:=BP a a;omega
def al1(a b:List ae):tj a b=an (eO a b) 0:=by
 unfold tj;rw[LK,LK,BP a b];unfold aV;rcases DH (eO a b) 0 with h|h|h
 rw[dQ h,nY (by omega)];rfl;rw[h];rfl;rw[dN (show¬eO a b<0 by omega),dQ (show-eO a b<0 by omega),nY (by omega)];rfl
def ahi(a b:Int×Int):Int:=bif aV a.1 b.1||(an a.1 b.1&&aV a.2 b.2) then-1 else bif fp a b then 0 else 1
def pV{f:Nat}{T:dp}(z:du T){sp:Sp}(h: ∀args u,sp args=some u->pures args=true/\ ∃v s',aq (QT T) f args s0 v s'/\s'.ci=0/\gm s'.heap v u):cQ ah f sp:=by
 intro args x j G m w e g i;obtain⟨d,v,s',k,q,o⟩:=h args x j;exact nB (Q:=QT T) (mY z) (fun _=>Nat.zero_lt_succ 1) (args:=args) (v:=v) (s':=s') (xi d) (by rw[kC d];exact k) q o G m w e g i
variable{s:St}
def cP.isL{sz lo:Nat}{ov:aa}{α:Type}{enc:α->aa}{l:List α}(h:cP sz lo s ov (l.map enc)):ax sz enc ov l:=by
 rcases h with⟨e,d⟩|⟨_,k,d,_⟩
 exact .inl ⟨e,List.map_eq_nil_iff.1 d⟩;exact .inr ⟨_,d⟩
def xR(u:aa):Option (List ae):=bif bH u then ek 1 iL u else none
variable{l:List ae}{v:aa}
def BA(h:ax 1 aA v l)(d:bH v=true):xR v=some l:=by
 simp only[xR,d,cT,pA pg h]
def G5{u:aa}(h:xR u=some l):ax 1 aA u l/\bH u=true:=by
 unfold xR at h;obtain⟨d,h⟩:=aY h;exact⟨jN (fun v a=>pf) h,d⟩
def afn(u:aa):Option (List fO):=bif bH u then ek 2 ur u else none
variable{n:Nat}
def dg(h:n<4611686018427387904):IntKind.i64.wrap ((n:Int)+1)=((n+1:Nat):Int):=by rw[jE (by omega) (by omega)];omega
class Std (Q:aD):Prop where
 P:Q.P=ah
 hint:Q.hint=ak
 H: ∀f,Q.specH f=none
class No (Q:aD) (f:FuncId):Prop where
 s:Q.spec f=none
 w:Q.specW f=none
attribute[go_sem]Std.P Std.hint No.s
variable{fn:Func}{f:FuncId}{args:List aa}{sc:SC}{s':St}{t:Tmp}{Q:aD}
def aq.ofN[Std Q][No Q f](k:ah.funcs[f]? =some fn)(m:fn.body.map dJ=some sc)(j:fn.ntmps=n)(i:fn.results.toList=[.tmp t])(h:W Q f sc (fZ n args) s fun x d e=>e=s'/\(x= .normal\/x= .ret)/\ac d.env t=v)(g:v.ge=true:=by rfl):aq Q f args s v s':=
 lu (by rw[Std.P];exact k) m j i No.s (h.mono fun _ _ _ ⟨u,q,o⟩=>⟨u,q,dK o g⟩) (Std.H f) No.w
variable{rs:List ResultVar}{R:aa->St->Prop}
def aq.ofNR[Std Q][No Q f](q:ah.funcs[f]? =some fn)(u:fn.body.map dJ=some sc)(o:fn.ntmps=n)(k:fn.results.toList=rs)(h:W Q f sc (fZ n args) s fun x d e=>(x= .normal\/x= .ret)/\ ∃v,(iu Q [] d e rs).map nq=some v/\R v e): ∃v s',aq Q f args s v s'/\R v s':=by
 obtain⟨x,d,e,g,i,v,j,m⟩:=h;exact⟨v,e,lu (by rw[Std.P];exact q) u o k No.s ⟨x,d,e,g,rfl,i,by simpa only[Option.map_eq_some_iff] using j⟩ (Std.H f) No.w,m⟩
def aq.ofNRZ[Std Q][No Q f](F:bC f fn sc n rs)(h:W Q f sc (fZ n args) s fun x d e=>(x= .normal\/x= .ret)/\ ∃v,(iu Q [] d e rs).map nq=some v/\R v e): ∃v s',aq Q f args s v s'/\R v s':=aq.ofNR F.1 F.2 F.3 F.4 h
def aq.ofNZ[Std Q][No Q f](F:bC f fn sc n [.tmp t])(h:W Q f sc (fZ n args) s fun x d e=>e=s'/\(x= .normal\/x= .ret)/\ac d.env t=v)(g:v.ge=true:=by rfl):aq Q f args s v s':=aq.ofN F.1 F.2 F.3 F.4 h g
def Obj.Al.all{o:Obj}(h:o.Al):(o.refsV.ge=true/\o.tagsV.ge=true)/\o.refsV.cells=[o.refsV]/\o.tagsV.cells=[o.tagsV]:=⟨⟨h.gE.ge,h.gT.ge⟩,h.gE.scal,h.gT.scal⟩
def Ut:aa->Option (List aa)->Option (FuncId×List aa)
 | .func (.func f) first captured,args=>args.bind fun args=>some (f,first++(args++captured))
 |_,_=>none
def agc(e:aw)(t:Nat)(xs:Array Operand)(d:Array TypeId):callee e ⟨.value (.tmp t),xs,d⟩=Ut (ac e t) (evcs e xs.toList):=by
 simp only[callee,dR,Option.bind_some];cases ac e t with
 |func fn a b=>cases fn<;>rfl
 |_=>rfl
def agb(f:FuncId)(a b args:List aa):Ut (.func (.func f) a b) (some args)=some (f,a++(args++b)):=rfl
def rp(P:Program)(mk:aI)(d:List TypeId)(e:Bool)(x y:Int)(s:St):je P mk .max d e [ag x,ag y] s=some (ag (max x y),s):=by
 have:(bif aV x y then y else x)=max x y:=by
  unfold aV;by_cases h:x<y;simp[h];omega;simp[h];omega
 simp[je,tF,this]
def sR(P:Program)(mk:aI)(d:List TypeId)(e:Bool)(x y:Int)(s:St):je P mk .min d e [ag x,ag y] s=some (ag (min x y),s):=by
 have:(bif aV y x then y else x)=min x y:=by
  unfold aV;by_cases h:y<x;simp[h];omega;simp[h];omega
 simp[je,tF,this]
def D6(P:Program)(mk:aI)(d:List TypeId)(e:Bool)(x y:ae)(s:St):je P mk .max d e [.str x,.str y] s=some (.str (Cz x y),s):=rfl
def D5(P:Program)(mk:aI)(d:List TypeId)(e:Bool)(x y:ae)(s:St):je P mk .min d e [.str x,.str y] s=some (.str (CB x y),s):=rfl
def og(a b c d:Int):dI ah .eql 49 (.agg [ag a,ag b]) (.agg [ag c,ag d])=some (.bool (fp (a,b) (c,d))):=Qm a b c d
def abx(a b c d:Int):dI ah .neq 49 (.agg [ag a,ag b]) (.agg [ag c,ag d])=some (.bool (!fp (a,b) (c,d))):=by
 have h:=og a b c d;rw[Lg] at h;rw[ae4];generalize wh ah 49 (.agg [ag a,ag b]) (.agg [ag c,ag d])=x at*;generalize fp (a,b) (c,d)=y at*;cases x with
 |none=>cases h
 |some x=>
  injection h with h;injection h with h
  subst h;rfl
def Df(a b c d e f g h:Int):dI ah .eql 285 (.agg [ag a,ag b,ag c,ag d]) (.agg [ag e,ag f,ag g,ag h])=some (.bool (sh ((a,b),(c,d)) ((e,f),(g,h)))):=by
 have k:wh ah 285 (.agg [ag a,ag b,ag c,ag d]) (.agg [ag e,ag f,ag g,ag h])=
  ((some (an a e)).bind fun r=>bif r then(some (an b f)).bind fun r=>bif r then some true else some false else some false).bind fun r=>bif r then((some (an c g)).bind fun r=>bif r then(some (an d h)).bind fun r=>bif r then some true else some false else some false).bind fun r=>bif r then some true else some false else some false:=by kernel_rfl
 rw[Lg,k];simp only[sh,fp];cases an a e<;>cases an b f<;>cases an c g<;>cases an d h<;>rfl
def bL(s:bI):aa:=.agg [ag s.1.1,ag s.1.2,ag s.2.1,ag s.2.2]
def uq:aa->Option bI
 | .agg [.int .i64 a,.int .i64 b,.int .i64 c,.int .i64 d]=>some ((a,b),(c,d))
 |_=>none
def zS{p:bI}(h:uq v=some p):v=bL p:=by
 unfold uq at h;split at h;injection h with h;subst h;rfl
 cases h
def G3(s:bI):uq (bL s)=some s:=rfl
def avi(s:bI):bH (bL s)=true:=rfl
def Jg(h:bf p=true):(-2097152<=p.1/\p.1<=2097152)/\(-2097152<=p.2/\p.2<=2097152):=by
 simp only[bf,aV,bm,Bool.not_eq_true',decide_eq_false_iff_not] at h;omega
def aq.ofW(m:Q.P.funcs[f]? =some fn)(o:fn.body.map dJ=some sc)(k:fn.ntmps=n)(j:fn.results.toList=[.tmp t])(d:Q.spec f=none)(i:v.ge=true)(h:W Q f sc (fZ n args) s fun x e g=>g=s'/\(x= .normal\/x= .ret)/\ac e.env t=v)(u:Q.specH f=none:=by rfl)(q:Q.specW f=none:=by rfl):aq Q f args s v s':=
 lu m o k j d (h.mono fun _ _ _ ⟨A,z,w⟩=>⟨A,z,dK w i⟩) u q
variable{l:List Pt}
section
variable{sp:g9}
def arD(B:ax 2 aN v l)(E:l.length<=1000000){K:Ex->Fr->St->Prop}(D: ∀e lc,l.all bf=true->K (.exit 0) ⟨e,26,lc⟩ s)(A: ∀e lc,l.all bf=false->ac e 2= .bool false->K .ret ⟨e,26,lc⟩ s):
 ∀(r d:List Pt) (e:aw) (lc:Ag.Loc),l=d++r->l.all bf=r.all bf->ac e 5=v->ac e 6=aM l.length->ac e 7=aM d.length->W (QS sp) 311 (.loop E8) ⟨e,26,lc⟩ s K:=by
 have o:=B.ge;intro r
 induction r with
 |nil=>
  intro d e lc m h k j i;have w:l.length=d.length:=by rw[m];simp
  refine W.loopF ?_;simp only[go_sem,seval,E8,k,j,i,o,w,cq];exact D _ _ h
 |cons p r C=>
  intro d e lc m h k j i;have g:d.length<l.length:=by rw[m];simp
  have z:l[d.length]? =some p:=by rw[m];simp
  have q:=fun lc=>B.at mH.2.2.1 z lc .i64;have u:=dg (n:=d.length) (by omega);rw[jq] at h;refine W.loopF ?_;cases e1:aV 2097152 (max p.1 p.2) with
  |true=>
   simp only[go_sem,seval,E8,k,j,i,o,q,g,aN,rp,sR,e1];exact A _ _ (by rw[h];simp only[bf,e1,jp,dA]) (by simp only[sG,seval, *])
  |false=>
   cases e2:aV (min p.1 p.2) (-2097152) with
   |true=>
    simp only[go_sem,seval,E8,k,j,i,o,q,g,aN,rp,sR,e1,e2];exact A _ _ (by rw[h];simp only[bf,e1,e2,jp,gh,dA]) (by simp only[sG,seval, *])
   |false=>
    simp only[go_sem,seval,E8,k,j,i,o,q,g,aN,rp,sR,e1,e2,u];exact C (d++[p]) _ _ (by rw[m];simp) (by rw[h];simp only[bf,e1,e2,Bool.not_false,bW,Bool.true_and]) (by simp only[sG,seval, *]) (by simp only[sG,seval, *]) (by simp only[sN,seval,sA])
def arE(d:sp 311=none)(h:ax 2 aN v l)(m:l.length<=1000000)(s:St):aq (QS sp) 311 [v] s (.bool (l.all bf)) s:=by
 have q:=h.ge;have i:=fun j s=>h.lenS mH j s;refine aq.of3 Im.1 Im.2 Im.3 Im.4 d rfl ?_;simp only[go_sem,seval,q,i];refine arD h m ?_ ?_ l [] _ _ rfl rfl (by simp only[sG,seval, *]) (by simp only[sG,seval, *]) (by simp only[sN,seval];rfl);intro e k g;simp only[go_sem,seval,g];intro e k g o;simp only[go_sem,seval,o,g]
end
def rP:Sp
 | [u]=>bif bH u then(ek 2 jw u).bind fun l=>bif Nat.ble l.length 1000000 then some (.bool (l.all bf)) else none else none
 |_=>none
def ZP(d:l.length<=1000000):rP [.list 2 (l.map aN) .GE]=some (.bool (l.all bf)):=by
 have e:bH (.list 2 (l.map aN) .GE)=true:=by simp[bH,vf FO]
 simp only[dW,rP,e,pA vT (.inr ⟨.GE,rfl⟩:ax 2 aN (.list 2 (l.map aN) .GE) l),Nat.ble_eq_true_of_le d]
def ZN(g:bf a=true)(e:bf b=true)(d:bf c=true):rP [.list 2 [.agg [ag a.1,ag a.2],.agg [ag b.1,ag b.2],.agg [ag c.1,ag c.2]] .GE]=some (.bool true):=by
 have h:=ZP (l:=[a,b,c]) (by simp);simp only[jq,List.all_nil,g,e,d,bW] at h;exact h
def arA{d:Pt}(j:bf a=true)(i:bf b=true)(g:bf c=true)(e:bf d=true):rP [.list 2 [.agg [ag a.1,ag a.2],.agg [ag b.1,ag b.2],.agg [ag c.1,ag c.2],.agg [ag d.1,ag d.2]] .GE]=some (.bool true):=by
 have h:=ZP (l:=[a,b,c,d]) (by simp);simp only[jq,List.all_nil,j,i,g,e,bW] at h;exact h
def PM:cQ ah 311 rP:=by
 refine pV du.nil fun args u h=>?_;unfold rP at h;split at h;obtain⟨d,h⟩:=aY h;simp only[aj] at h;obtain⟨l,g,h⟩:=h;obtain⟨e,h⟩:=aY h;have h:=sI h;subst h;exact⟨by simp only[pures,d,bW],_,_,arE (sp:=fun f=>gD f []) rfl (jN (fun v a=>lH) g) (Nat.le_of_ble_eq_true e) _,rfl,⟨1,rfl⟩⟩;cases h
variable{x y:Int}
def Dv(e: -4194304<=x/\x<=4194304)(d: -4194304<=y/\y<=4194304):IntKind.i64.wrap (x-y)=x-y:=jE (by omega) (by omega)
def CF(e: -8388608<=x/\x<=8388608)(d: -8388608<=y/\y<=8388608): -70368744177664<=x*y/\x*y<=70368744177664:=by
 have g:(x*y).natAbs<=8388608*8388608:=by
  rw[Int.natAbs_mul];exact Nat.mul_le_mul (by omega) (by omega)
 omega
def Fz(e: -8388608<=x/\x<=8388608)(d: -8388608<=y/\y<=8388608):IntKind.i64.wrap (x*y)=x*y:=by
 have:=CF e d;exact jE (by omega) (by omega)
def vA(p:Pt):Bool:=decide (-4194304<=p.1)&&decide (p.1<=4194304)&&decide (-4194304<=p.2)&&decide (p.2<=4194304)
def adm(h:vA p=true):(-4194304<=p.1/\p.1<=4194304)/\(-4194304<=p.2/\p.2<=4194304):=by
 simp only[vA,bm,dE] at h;omega
section
variable{sp:g9}
def awO(d:sp 420=none)(i:bf a=true)(h:bf b=true)(s:St):aq (QS sp) 420 [aN a,aN b] s (aN (b.1-a.1,b.2-a.2)) s:=by
 have k:=Jg i;have j:=Jg h;have g:=Dv (x:=b.1) (y:=a.1) (by omega) (by omega);have e:=Dv (x:=b.2) (y:=a.2) (by omega) (by omega);refine aq.of4 IC.1 IC.2 IC.3 IC.4 d ?_;simp only[go_sem,seval,aN,g,e,bj,bc,aX,aZ,evc]
def ahB(d:sp 421=none)(j:vA a=true)(i:vA b=true)(s:St):aq (QS sp) 421 [aN a,aN b] s (bO (a.1*b.2-a.2*b.1)) s:=by
 have q:=adm j;have o:=adm i;have m:=CF (x:=a.1) (y:=b.2) (by omega) (by omega);have k:=CF (x:=a.2) (y:=b.1) (by omega) (by omega);have h:=Fz (x:=a.1) (y:=b.2) (by omega) (by omega);have g:=Fz (x:=a.2) (y:=b.1) (by omega) (by omega);have e:IntKind.i64.wrap (a.1*b.2-a.2*b.1)=a.1*b.2-a.2*b.1:=jE (by omega) (by omega);refine aq.of3 IE.1 IE.2 IE.3 IE.4 d rfl ?_;simp only[go_sem,seval,aN,bO,ql,h,g,e]
end
def Dx:Sp
 | [u,v]=>(jw u).bind fun a=>(jw v).bind fun b=>bif bf a&&bf b then some (aN (b.1-a.1,b.2-a.2)) else none
 |_=>none
def ac9(e:bf a=true)(d:bf b=true):Dx [aN a,aN b]=some (aN (b.1-a.1,b.2-a.2)):=by
 simp only[dW,Dx,vT,e,d,bW]
def awN:cQ ah 420 Dx:=by
 refine pV du.nil fun args u h=>?_;unfold Dx at h;split at h;simp only[aj] at h;obtain⟨a,g,b,e,h⟩:=h;obtain⟨d,h⟩:=aY h;simp only[bm] at d;have h:=sI h;subst h;rw[lH g,lH e];exact⟨rfl,_,_,awO (sp:=fun f=>gD f []) rfl d.1 d.2 _,rfl,⟨2,rfl⟩⟩;cases h
def BR:Sp
 | [u,v]=>(jw u).bind fun a=>(jw v).bind fun b=>bif vA a&&vA b then some (bO (a.1*b.2-a.2*b.1)) else none
 |_=>none
def ahy(e:vA a=true)(d:vA b=true):BR [aN a,aN b]=some (bO (a.1*b.2-a.2*b.1)):=by
 simp only[dW,BR,vT,e,d,bW]
def ahz:cQ ah 421 BR:=by
 refine pV du.nil fun args u h=>?_;unfold BR at h;split at h;simp only[aj] at h;obtain⟨a,g,b,e,h⟩:=h;obtain⟨d,h⟩:=aY h;simp only[bm] at d;have h:=sI h;subst h;rw[lH g,lH e];exact⟨rfl,_,_,ahB (sp:=fun f=>gD f []) rfl d.1 d.2 _,rfl,⟨1,rfl⟩⟩;cases h
def adn(e:bf a=true)(d:bf b=true):vA (b.1-a.1,b.2-a.2)=true:=by
 have h:=Jg e;have g:=Jg d;simp only[vA,bm,dE];omega
section
variable{sp:g9}
def atA(h:sp 313=none)(i:sp 311=some rP)(g:sp 420=some Dx)(e:sp 421=some BR)(j:sp 232=some oG)(d:bf a=true)(m:bf b=true)(k:bf c=true)(s:St):aq (QS sp) 313 [aN a,aN b,aN c] s (bO (da a b c)) s:=by
 have z:=ZN d m k;have w:=ac9 d m;have u:=ac9 d k;have q:=ahy (adn d m) (adn d k);have o:oG [bO ((b.1-a.1)*(c.2-a.2)-(b.2-a.2)*(c.1-a.1)),ag 0]=some (bO (da a b c)):=rfl;simp only[aN,bO] at z w u q o;refine aq.of3 Ip.1 Ip.2 Ip.3 Ip.4 h rfl ?_;simp only[go_sem,seval,aN,bO,bj,bc,aX,aZ,evc,agc,agb,pD,i,g,e,j,z,w,u,q,o]
def avZ(g:sp 312=none)(e:sp 379=some sb)(t:bI)(s:St):aq (QS sp) 312 [bL t] s (bL (f9 t)) s:=by
 obtain⟨⟨a,b⟩,c,d⟩:=t;have h:sb [.agg [ag a,ag b],.agg [ag c,ag d]]=some (ag (fk (a,b) (c,d))):=rfl;refine aq.of4 Io.1 Io.2 Io.3 Io.4 g ?_;unfold f9;cases e1:aV 0 (fk (a,b) (c,d)) with
 |true=>simp only[go_sem,seval,bL,e,h,e1]
 |false=>simp only[go_sem,seval,bL,e,h,e1]
end
def tJ:Sp
 | [u,v,w]=>(jw u).bind fun a=>(jw v).bind fun b=>(jw w).bind fun c=>bif bf a&&(bf b&&bf c) then some (bO (da a b c)) else none
 |_=>none
def atz(g:bf a=true)(e:bf b=true)(d:bf c=true):tJ [aN a,aN b,aN c]=some (bO (da a b c)):=by
 simp only[dW,tJ,vT,g,e,d,bW]
def SL:dp:=[(311,rP),(420,Dx),(421,BR),(232,oG)]
def aek:du SL:=.cons PM (.cons awN (.cons ahz (.cons Hb .nil)))
def aaQ:cQ ah 313 tJ:=by
 refine pV aek fun args u h=>?_;unfold tJ at h;split at h;simp only[aj] at h;obtain⟨a,i,b,g,c,e,h⟩:=h;obtain⟨d,h⟩:=aY h;simp only[bm] at d;have h:=sI h;subst h;rw[lH i,lH g,lH e];exact⟨rfl,_,_,atA (sp:=fun f=>gD f SL) rfl rfl rfl rfl rfl d.1 d.2.1 d.2.2 _,rfl,⟨1,rfl⟩⟩;cases h
def A4:Sp
 | [u]=>(uq u).bind fun t=>some (bL (f9 t))
 |_=>none
def SM:dp:=[(379,sb)]
def ael:du SM:=.cons Qk .nil
def acE:cQ ah 312 A4:=by
 refine pV ael fun args u h=>?_;unfold A4 at h;split at h;simp only[aj] at h;obtain⟨t,d,h⟩:=h;have h:=sI h;subst h;rw[zS d];exact⟨rfl,_,_,avZ (sp:=fun f=>gD f SM) rfl rfl t _,rfl,⟨2,rfl⟩⟩;cases h
