/- Lemmas for ValidViews. -/
import Derived.Test.YtnnppcoplinajaaGreatB5
import Derived.Test.YtnnppcoplinajaaGreatB6
import Derived.Test.YtnnppcoplinajaaGreatB2
import Derived.Test.YtnnppcoplinajaaGreatAg3
import Derived.Test.YtnnppcoplinajaaGreatB8
set_option linter.all false
open Bool renaming and_eq_true→bu,and_false→gN,and_self→cw,and_true→je,eq_iff_iff→DM,false_and→dW,false_or→kg,not_false→hG,not_true→fp,or_eq_false_iff→v9,or_false→kh,or_self→ut,or_true→li,true_and→eH,true_or→iR
open Int renaming lt_trichotomy→DQ,mul_le_mul_of_nonneg_left→K7
open List renaming all_cons→ju,mem_cons→fc,range→ix
open Nat renaming lt_irrefl→cD,reduceAdd→bQ,reduceBEq→ah
open Go.Op renaming bytesLess→fN
open Go.Operand renaming tmp→aD
open Option renaming bind_eq_some_iff→ak
open Prod.mk renaming injEq→bI
open Go.Proofs.Tryz renaming prog→ae
open Go.Ag.W renaming seq→cU
namespace Go.Proofs.YtnnppcoplinajaaGreat
open Go.Ag
abbrev Pt:=Int×Int
abbrev bT:=Pt×Pt
def gF(a b c:Pt):Int:=(b.1-a.1)*(c.2-a.2)-(b.2-a.2)*(c.1-a.1)
def du(a b c:Pt):Int:=jx (gF a b c) 0
def gY(s:bT):bT:=bif bc 0 (gg s.1 s.2) then(s.2,s.1) else s
def sa(s:bT)(p:Pt):Bool:=an (du (gY s).1 (gY s).2 p) 0&&(cr (gg (gY s).1 p) 0&&(cr (gg p (gY s).2) 0&&(!gh (gY s).1 (gY s).2||gh p (gY s).1)))
def rP(s t:bT):Pt:=bif bc 0 (gg t.1 s.1) then t.1 else s.1
def rK(s t:bT):Pt:=bif bc (gg t.2 s.2) 0 then t.2 else s.2
def xu(s t:bT):Int:=bif gh s.1 s.2 then bif sa t s.1 then bif gh s.1 t.1||gh s.1 t.2 then 1 else 2 else 0
 else bif an (gg (rP s t) (rK s t)) (-1) then 5 else bif an (gg (rP s t) (rK s t)) 0 then 1 else 0
def vt(s t:bT):Int:=bif gh t.1 t.2 then xu t s else xu s t
def sm(s t:bT):Bool:=gh s.1 t.1&&gh s.2 t.2
def qC(s t:bT):Int:=
 bif bc 0 (du s.1 s.2 t.1*du s.1 s.2 t.2)||bc 0 (du t.1 t.2 s.1*du t.1 t.2 s.2) then 0
 else bif bc (du s.1 s.2 t.1*du s.1 s.2 t.2) 0&&bc (du t.1 t.2 s.1*du t.1 t.2 s.2) 0 then 3
 else bif an (du s.1 s.2 t.1*du s.1 s.2 t.2) 0&&an (du t.1 t.2 s.1*du t.1 t.2 s.2) 0 then 1 else 2
def lF(s t:bT):Bool:=gh s.1 s.2||gh t.1 t.2||(an (du s.1 s.2 t.1) 0&&an (du s.1 s.2 t.2) 0)
def qN(s t:bT):Int:=bif sm s t then 4 else bif lF s t then vt s t else qC s t
def ld(s t:bT):Int:=qN (gY s) (gY t)
def ij(a b:Pt):Prop:=a.1<b.1\/(a.1=b.1/\a.2<=b.2)
def wL(a b:Pt):(gg a b= -1/\ij a b/\a≠b)\/(gg a b=0/\a=b)\/(gg a b=1/\ij b a/\a≠b):=by
 obtain⟨g,j⟩:=a;obtain⟨f,i⟩:=b;simp only[gg,u9,jx,bc,an,ij,bI,ne_eq];rcases DQ g f with h|h|h
 have: ¬f<g:=by omega
 simp[h];omega;subst h;rcases DQ j i with h|h|h
 simp[h];omega;subst h;simp;have: ¬j<i:=by omega
 simp[h,this];omega;have: ¬g<f:=by omega
 simp[h,this];omega
variable{a b:Pt}
def tZ:gh a b=true↔a=b:=by
 obtain⟨i,h⟩:=a;obtain⟨g,f⟩:=b;simp only[gh,an,bI];by_cases h1:i=g<;>by_cases h2:h=f<;>simp[h1,h2]
def Zn(a b:Pt):gh a b=gh b a:=by
 rw[DM,tZ,tZ];exact eq_comm
def Xh(a b:Pt):ij a b\/ij b a:=by
 simp only[ij];omega
def Jz(h:ij a b)(k:ij b a):a=b:=by
 obtain⟨j,i⟩:=a;obtain⟨g,f⟩:=b;simp only[ij,bI] at*;omega
def aax(s:bT):ij (gY s).1 (gY s).2:=by
 unfold gY;rcases wL s.1 s.2 with⟨h,k,_⟩|⟨h,k⟩|⟨h,k,_⟩<;>rw[h]
 exact k;show ij s.1 s.2;rw[k];simp[ij];exact k
def Qj(s:bT):(gY s=s)\/(gY s=(s.2,s.1)):=by
 unfold gY;cases bc 0 (gg s.1 s.2)<;>simp
def ahi:cr (gg a b) 0=true↔ij a b:=by
 rcases wL a b with⟨h,k,_⟩|⟨h,k⟩|⟨h,k,n⟩<;>rw[h]
 simp[cr,k];subst k;simp[cr,ij];simp only[cr];constructor;intro h;simp at h;intro f;exact absurd (Jz f k) n
def B5(a:Int):(jx a 0= -1/\a<0)\/(jx a 0=0/\a=0)\/(jx a 0=1/\0<a):=by
 unfold jx bc;rcases DQ a 0 with h|h|h
 simp[h];subst h;simp;have: ¬a<0:=by omega
 simp[h,this]
def boxes(s t:bT):Prop:=(min s.1.1 s.2.1<=max t.1.1 t.2.1/\min t.1.1 t.2.1<=max s.1.1 s.2.1)/\(min s.1.2 s.2.2<=max t.1.2 t.2.2/\min t.1.2 t.2.2<=max s.1.2 s.2.2)
variable{d:Int}
theorem uX{D p q c a b:Int}(z:0<D)(j:0<=p)(i:p<=D)(g:0<=q)(f:q<=D)(h:D*c+p*(d-c)=D*a+q*(b-a)):min c d<=max a b:=by
 by_cases hc:min c d<=max a b;exact hc;exfalso;have w:max a b+1<=c:=by omega
 have o:max a b+1<=d:=by omega
 have m:a<=max a b:=by omega
 have k:b<=max a b:=by omega
 generalize max a b=M at*;have E:=K7 w (show 0<=D-p by omega);have C:=K7 o j;have B:=K7 m (show 0<=D-q by omega);have A:=K7 k g
 grind
variable{p:Pt}
theorem Nh(m:ij a p)(k:ij p b)(h:gF a b p=0):(a.1<=p.1/\p.1<=b.1)/\(min a.2 b.2<=p.2/\p.2<=max a.2 b.2):=by
 have g:a.1<=p.1/\p.1<=b.1:=by
  simp only[ij] at*;omega
 refine⟨g,?_⟩;by_cases e:a.1=b.1;simp only[ij] at*;omega;have f:(b.1-a.1)*p.2+0*(p.2-p.2)=(b.1-a.1)*a.2+(p.1-a.1)*(b.2-a.2):=by
  simp only[gF] at h;grind
 have j:=uX (show 0<b.1-a.1 by omega) (Int.le_refl 0) (by omega) (by omega) (by omega) f;have i:=uX (show 0<b.1-a.1 by omega) (show 0<=p.1-a.1 by omega) (by omega) (Int.le_refl 0) (by omega) f.symm;omega
variable{c:Pt}
theorem Mr{d:Pt}(z:a≠b)(B:gF a b c=0)(A:gF a b d=0):gF c d a=0/\gF c d b=0:=by
 obtain⟨f,h⟩:=a;obtain⟨m,k⟩:=b;obtain⟨j,G⟩:=c;obtain⟨i,F⟩:=d;simp only[gF,ne_eq,bI] at*;by_cases hx:m-f=0;have w:k-h≠0:=by omega
 rw[hx] at B A;have q:(k-h)*(j-f)=0:=by omega
 have o:(k-h)*(i-f)=0:=by omega
 have q:=(Int.mul_eq_zero.1 q).resolve_left w;have o:=(Int.mul_eq_zero.1 o).resolve_left w;have E:j=f:=by omega
 have D:i=f:=by omega
 have C:m=f:=by omega
 subst E;subst D;subst C;simp;have g:(m-f)*((j-f)*(F-h)-(G-h)*(i-f))=0:=by grind
 have g:=(Int.mul_eq_zero.1 g).resolve_left hx;constructor<;>grind
theorem aeB{d:Pt}(O: ¬(gF a b c=0/\gF a b d=0))(C: ¬0<du a b c*du a b d)(B: ¬0<du c d a*du c d b):boxes (a,b) (c,d):=by
 obtain⟨g,f⟩:=a;obtain⟨m,j⟩:=b;obtain⟨i,h⟩:=c;obtain⟨q,o⟩:=d;have M:gF (g,f) (m,j) (q,o)-gF (g,f) (m,j) (i,h)=gF (i,h) (q,o) (g,f)-gF (i,h) (q,o) (m,j):=by
  simp only[gF];grind
 have G:(gF (g,f) (m,j) (q,o)-gF (g,f) (m,j) (i,h))*i+(-gF (g,f) (m,j) (i,h))*(q-i)=(gF (g,f) (m,j) (q,o)-gF (g,f) (m,j) (i,h))*g+gF (i,h) (q,o) (g,f)*(m-g):=by
  simp only[gF];grind
 have F:(gF (g,f) (m,j) (q,o)-gF (g,f) (m,j) (i,h))*h+(-gF (g,f) (m,j) (i,h))*(o-h)=(gF (g,f) (m,j) (q,o)-gF (g,f) (m,j) (i,h))*f+gF (i,h) (q,o) (g,f)*(j-f):=by
  simp only[gF];grind
 simp only[du] at C B;generalize gF (g,f) (m,j) (i,h)=m1 at*;generalize gF (g,f) (m,j) (q,o)=m2 at*;generalize gF (i,h) (q,o) (g,f)=l1 at*;generalize gF (i,h) (q,o) (m,j)=l2 at*;have J:(m1<=0/\0<=m2)\/(m2<=0/\0<=m1):=by
  rcases B5 m1 with⟨e,k⟩|⟨e,k⟩|⟨e,k⟩<;>rcases B5 m2 with⟨w,z⟩|⟨w,z⟩|⟨w,z⟩<;>rw[e,w] at C<;>first|omega|(exfalso;exact C (by decide))
 have I:(l1<=0/\0<=l2)\/(l2<=0/\0<=l1):=by
  rcases B5 l1 with⟨e,k⟩|⟨e,k⟩|⟨e,k⟩<;>rcases B5 l2 with⟨w,z⟩|⟨w,z⟩|⟨w,z⟩<;>rw[e,w] at B<;>first|omega|(exfalso;exact B (by decide))
 have H:m2-m1≠0:=by omega
 rcases Int.lt_or_gt_of_ne H with N|A
 have E:(-(m2-m1))*i+m1*(q-i)=(-(m2-m1))*g+(-l1)*(m-g):=by grind
 have D:(-(m2-m1))*h+m1*(o-h)=(-(m2-m1))*f+(-l1)*(j-f):=by grind
 exact⟨⟨uX (by omega) (by omega) (by omega) (by omega) (by omega) E.symm,uX (by omega) (by omega) (by omega) (by omega) (by omega) E⟩,uX (by omega) (by omega) (by omega) (by omega) (by omega) D.symm,uX (by omega) (by omega) (by omega) (by omega) (by omega) D⟩;exact⟨⟨uX A (by omega) (by omega) (by omega) (by omega) G.symm,uX A (by omega) (by omega) (by omega) (by omega) G⟩,uX A (by omega) (by omega) (by omega) (by omega) F.symm,uX A (by omega) (by omega) (by omega) (by omega) F⟩
def F9:an (du a b c) 0=true↔gF a b c=0:=by
 simp only[du];rcases B5 (gF a b c) with⟨e,k⟩|⟨e,k⟩|⟨e,k⟩<;>rw[e]
 simp only[an];constructor;intro h;simp at h;intro h;omega;simp[an,k];simp only[an];constructor;intro h;simp at h;intro h;omega
variable{s t:bT}
def L2(h:boxes s t):boxes t s:=⟨h.1.symm,h.2.symm⟩
def PH(h:(s.1.1<=p.1/\p.1<=s.2.1)/\(min s.1.2 s.2.2<=p.2/\p.2<=max s.1.2 s.2.2))(f:p=t.1):boxes s t:=by
 subst f;simp only[boxes];omega
def anQ(f:ij s.1 s.2)(h:sa s p=true):(s.1.1<=p.1/\p.1<=s.2.1)/\(min s.1.2 s.2.2<=p.2/\p.2<=max s.1.2 s.2.2):=by
 have e:gY s=s:=by
  unfold gY;rcases wL s.1 s.2 with⟨h,_⟩|⟨h,_⟩|⟨h,k,n⟩<;>rw[h]
  rfl;rfl;exact absurd (Jz f k) n
 simp only[sa,e,bu,F9,ahi] at h;exact Nh h.2.1 h.2.2.1 h.1
def amn(D:ij s.1 s.2)(C:ij t.1 t.2)(h:ij (rP s t) (rK s t)):(ij s.1 t.1/\ij t.1 s.2)\/(ij t.1 s.1/\ij s.1 t.2):=by
 obtain⟨⟨B,A⟩,z,w⟩:=s;obtain⟨⟨q,o⟩,m,k⟩:=t;simp only[rP,rK] at h;rcases wL (q,o) (B,A) with⟨g,j,_⟩|⟨g,j⟩|⟨g,j,_⟩<;>rcases wL (m,k) (z,w) with⟨f,i,_⟩|⟨f,i⟩|⟨f,i,_⟩<;>rw[g,f] at h<;>
  simp only[bc,ij,bI] at* <;>simp at h<;>omega
def amz(m:ij s.1 s.2)(i:ij t.1 t.2)(h:qN s t≠0):boxes s t:=by
 unfold qN at h;cases h1:sm s t with
 |true=>
  simp only[sm,bu,tZ] at h1;simp only[boxes,h1.1,h1.2];omega
 |false=>
  rw[h1] at h;simp only[cF] at h;have j: ∀ {s t:bT},ij s.1 s.2->ij t.1 t.2->gh s.1 s.2=true->xu s t≠0->boxes s t:=by
   intro s t m i g h;unfold xu at h;rw[g] at h;cases ho:sa t s.1 with
   |false=>rw[ho] at h;exact absurd rfl h
   |true=>exact L2 (PH (anQ i ho) rfl)
  cases h2:lF s t with
  |true=>
   rw[h2] at h;simp only[cT,vt] at h;cases g:gh t.1 t.2 with
   |true=>
    rw[g] at h;exact L2 (j i m g h)
   |false=>
    rw[g] at h;simp only[cF] at h;cases hd2:gh s.1 s.2 with
    |true=>exact j m i hd2 h
    |false=>
     unfold xu at h;rw[hd2] at h;simp only[lF,g,hd2,kg,bu,F9] at h2;have z:s.1≠s.2:=fun e=>by rw[tZ.2 e] at hd2;cases hd2
     have o:=Mr z h2.1 h2.2;have A:ij (rP s t) (rK s t):=by
      rcases wL (rP s t) (rK s t) with⟨e,k,_⟩|⟨e,k⟩|⟨e,k,_⟩
      exact k;rw[k];simp[ij];rw[e] at h;exact absurd rfl h
     rcases amn m i A with⟨w,q⟩|⟨w,q⟩
     exact PH (Nh w q h2.1) rfl;exact L2 (PH (Nh w q o.1) rfl)
  |false=>
   rw[h2] at h;simp only[cF] at h;simp only[lF,v9] at h2;obtain⟨_,f⟩:=h2;unfold qC at h;cases h4:(bc 0 (du s.1 s.2 t.1*du s.1 s.2 t.2)||bc 0 (du t.1 t.2 s.1*du t.1 t.2 s.2)) with
   |true=>rw[h4] at h;exact absurd rfl h
   |false=>
    simp only[v9,bc,decide_eq_false_iff_not] at h4;refine aeB (a:=s.1) (b:=s.2) (c:=t.1) (d:=t.2) (fun o=>?_) h4.1 h4.2;rw[Bool.and_eq_false_iff] at f;rcases f with f|f
    rw[F9.2 o.1] at f;cases f;rw[F9.2 o.2] at f;cases f
def amD(h:ld s t≠0):boxes s t:=by
 have i:=amz (aax s) (aax t) h;rcases Qj s with g|g<;>rcases Qj t with f|f<;>rw[g,f] at i<;>simp only[boxes] at* <;>omega
def yu(h:ij a b)(n:a≠b):gg a b= -1/\gg b a=1:=by
 constructor;rcases wL a b with⟨e,_⟩|⟨_,e⟩|⟨_,k,_⟩
 exact e;exact absurd e n;exact absurd (Jz h k) n;rcases wL b a with⟨_,k,_⟩|⟨_,e⟩|⟨e,_⟩
 exact absurd (Jz h k) n;exact absurd e.symm n;exact e
def amm:rP s t=rP t s:=by
 unfold rP;by_cases h:s.1=t.1;rw[h];rcases Xh s.1 t.1 with k|k
 rw[(yu k h).1,(yu k h).2];rfl;rw[(yu k (Ne.symm h)).1,(yu k (Ne.symm h)).2];rfl
def agO:rK s t=rK t s:=by
 unfold rK;by_cases h:s.2=t.2;rw[h];rcases Xh s.2 t.2 with k|k
 rw[(yu k h).1,(yu k h).2];rfl;rw[(yu k (Ne.symm h)).1,(yu k (Ne.symm h)).2];rfl
def Yy(h:s.1=s.2)(f:p≠s.1):sa s p=false:=by
 have e:gY s=s:=by
  unfold gY;rcases wL s.1 s.2 with⟨_,_,k⟩|⟨e,_⟩|⟨_,_,k⟩
  exact absurd h k;rw[e];rfl;exact absurd h k
 have i:gh s.1 s.2=true:=tZ.2 h;have g:gh p s.1=false:=by
  cases hb:gh p s.1 with
  |true=>exact absurd (tZ.1 hb) f
  |false=>rfl
 simp only[sa,e,i,g,fp,ut,gN]
def anM(g:gh s.1 s.2=false)(f:gh t.1 t.2=false):lF s t=lF t s:=by
 have j:s.1≠s.2:=fun e=>by rw[tZ.2 e] at g;cases g
 have i:t.1≠t.2:=fun e=>by rw[tZ.2 e] at f;cases f
 simp only[lF,g,f,kg];rw[DM];simp only[bu,F9];exact⟨fun h=>Mr j h.1 h.2,fun h=>Mr i h.1 h.2⟩
def amA(s t:bT):qN s t=qN t s:=by
 unfold qN;have k:sm s t=sm t s:=by simp only[sm,Zn s.1 t.1,Zn s.2 t.2]
 rw[k];cases h1:sm t s with
 |true=>rfl
 |false=>
  simp only[cF];cases hs:gh s.1 s.2 with
  |true=>
   have g:lF s t=true:=by simp only[lF,hs,iR]
   have f:lF t s=true:=by simp only[lF,hs,li,iR]
   rw[g,f];simp only[cT,vt,hs];cases ht:gh t.1 t.2 with
   |false=>simp only[cF]
   |true=>
    have j:=tZ.1 hs;have i:=tZ.1 ht;have h:s.1≠t.1:=fun e=>by
     have:sm t s=true:=by
      simp only[sm,bu,tZ,<-j,<-i,e,and_self]
     rw[this] at h1;cases h1
    simp only[cT,xu,hs,ht,Yy j (Ne.symm h),Yy i h,cF]
  |false=>
   cases ht:gh t.1 t.2 with
   |true=>
    have g:lF s t=true:=by simp only[lF,ht,li,iR]
    have f:lF t s=true:=by simp only[lF,ht,iR]
    rw[g,f];simp only[cT,vt,hs,ht,cF]
   |false=>
    rw[anM hs ht];cases lF t s with
    |true=>simp only[cT,vt,xu,hs,ht,cF,amm (s:=s) (t:=t),agO (s:=s) (t:=t)]
    |false=>
     simp only[cF,qC];rw[Bool.or_comm (bc 0 (du s.1 s.2 t.1*du s.1 s.2 t.2)),Bool.and_comm (bc (du s.1 s.2 t.1*du s.1 s.2 t.2) 0),Bool.and_comm (an (du s.1 s.2 t.1*du s.1 s.2 t.2) 0)]
def amy(s t:bT):ld s t=ld t s:=amA _ _
theorem Pg: ∀(l:List Obj) (last:ag),nP last l=true-> ∀q∈l,mD q.gT=true
 | [],_,_,q,h=>by cases h
 |o::r,last,h,q,g=>by
  simp only[nP] at h;cases hb: !gH o||Ag.leBytes o.id last with
  |true=>rw[hb] at h;cases h
  |false=>
   rw[hb] at h;rcases fc.1 g with rfl|g
   have f:gH q=true:=by
    cases f:gH q with
    |true=>rfl
    |false=>rw[f] at hb;cases hb
   unfold gH at f;cases hh:oo q with
   |true=>rw[hh] at f;cases f
   |false=>
    unfold oo at hh;simp only[v9,Bool.not_eq_false'] at hh;exact hh.1.1.2
   exact Pg r o.id h q g
def not_le{a b:ag}(h:fN a b=true):Ag.leBytes b a=false:=by
 rw[OG] at h;simpa using h
def anz{q:Obj}:gH q=true↔oo q=false/\pK q.uP [] [] q.gE=false/\(bif an q.uP 1 then(q.gE.length==0)&&qS q.x q.y else bif an q.uP 5 then(q.gE.length==3)&&DK q else DK q)=true:=by
 unfold gH;cases oo q with
 |true=>simp
 |false=>cases pK q.uP [] [] q.gE<;>simp
def JP: ∀(l:List Obj) (last:ag),nP last l=true-> ∀q∈l,gH q=true
 | [],_,_,q,h=>by cases h
 |o::r,last,h,q,f=>by
  simp only[nP] at h;cases hb:(!gH o||Ag.leBytes o.id last) with
  |true=>rw[hb] at h;cases h
  |false=>
   rw[hb] at h;rcases fc.1 f with rfl|f
   simp only[v9,Bool.not_eq_false'] at hb;exact hb.1;exact JP r o.id h q f
def Yn: ∀(l:List Obj) (last:ag),(∀q∈l,gH q=true)->(∀k∈l.map (·.id),fN last k=true)->(l.map (·.id)).Pairwise (fun a b=>fN a b=true)->nP last l=true
 | [],_,_,_,_=>rfl
 |o::r,last,h,h1,h2=>by
  rw[List.map_cons,List.pairwise_cons] at h2;have g:(!gH o||Ag.leBytes o.id last)=false:=by
   rw[h o (by simp),not_le (h1 o.id (by simp))];rfl
  simp only[nP,g,cF];exact Yn r o.id (fun q f=>h q (by simp[f])) h2.1 h2.2
def B6: ∀(a b:ag),dz a b<0↔fN a b=true
 | [],[]=>by simp[dz,Go.Proofs.bytesLess_eq]
 | [],y::b=>by rw[Go.Proofs.bytesLess_eq,dE];simp[dz]
 |x::a,[]=>by rw[Go.Proofs.bytesLess_eq,dE];simp[dz]
 |x::a,y::b=>by
  have f:=B6 a b;rw[Go.Proofs.bytesLess_eq,dE] at f ⊢;rw[List.cons_lt_cons_iff,UInt8.lt_iff_toNat_lt,<-UInt8.toNat_inj];simp only[dz,jC];rcases Nat.lt_trichotomy x.toNat y.toNat with h|h|h
  simp[h];simp only[h,cD,dF,cF,false_or,tA];exact f;simp only[go_sem,h,show¬x.toNat<y.toNat by omega,show¬x.toNat=y.toNat by omega,false_and,iff_false];omega
def alG{a b:ag}(h:fN a b=true):fN b a=false:=by
 rw[Go.Proofs.bytesLess_eq,dE] at h;rw[Go.Proofs.bytesLess_eq];exact dN (List.lt_asymm h)
def ad7(a b:ag):gu b a= -gu a b:=by
 unfold gu;cases h:fN a b with
 |true=>rw[alG h];rfl
 |false=>cases fN b a<;>rfl
def Tz{a b:ag}(h:gu a b=0):a=b:=by
 unfold gu at h;cases h1:fN a b with
 |true=>rw[h1] at h;simp at h
 |false=>
  cases h2:fN b a with
  |true=>rw[h1,h2] at h;simp at h
  |false=>
   rw[Go.Proofs.bytesLess_eq] at h1 h2;exact List.le_antisymm (List.not_lt.1 (of_decide_eq_false h2)) (List.not_lt.1 (of_decide_eq_false h1))
def ahh(a:Int):an (-a) 0=an a 0:=by
 by_cases h:a=0;subst h;rfl;rw[oq h,oq (by omega)]
theorem B8: ∀a b:List ag,fH b a= -fH a b
 | [],[]=>rfl
 | [],_::_=>rfl
 |_::_,[]=>rfl
 |a::x,b::y=>by
  simp only[fH,ad7 a b,ahh,B8 x y];cases an (gu a b) 0<;>rfl
theorem Mo: ∀ {a b:List ag},fH a b=0->a=b
 | [],[],_=>rfl
 | [],_::_,h=>by simp[fH] at h
 |_::_,[],h=>by simp[fH] at h
 |a::x,b::y,h=>by
  simp only[fH] at h;by_cases hz:gu a b=0;rw[hz] at h;rw[Tz hz,Mo (a:=x) (b:=y) (by simpa[an] using h)];rw[oq hz] at h;exact absurd h hz
def dM(k:ag):List fE->Option ag
 | []=>none
 |t::l=>bif t.1==k then some t.2 else dM k l
def CS(a b:ag):ag:=bif Ag.leBytes a b then a else b
def CQ(a b:ag):ag:=bif fN a b then b else a
def fu(a b:ag):ag×ag:=(CS a b,CQ a b)
def pV(m:List Obj)(r:ag):Int:=match dP r m with|some q=>q.uP|none=>0
def ei(m:List Obj)(r:ag):Bool:=an (pV m r) 1
def fJ(m:List Obj)(r:ag):Pt:=match dP r m with|some q=>(q.x,q.y)|none=>(0,0)
def kP(o:Obj):List (ag×ag):=(o.gE.zip (o.gE.tail++(bif an o.uP 3 then o.gE.take 1 else []))).map fun p=>fu p.1 p.2
def w8(m:List Obj)(o:Obj):Bool:=(an o.uP 2||an o.uP 3)&&o.gE.all (ei m)
def jJ(m:List Obj)(o:Obj):List (ag×ag):=bif w8 m o then kP o else []
def pA(m:List Obj)(k:ag×ag):bT:=(fJ m k.1,fJ m k.2)
def vC{α:Type}:List α->List (α×α)
 | []=>[]
 |a::l=>l.map (fun b=>(a,b))++vC l
def jr(p:ag×ag):List ag:=bif p.1==p.2 then [p.1] else [p.1,p.2]
def bk(p:Pt):Bool:= !bc 2097152 (max p.1 p.2)&& !bc (min p.1 p.2) (-2097152)
def pz(r:List Pt):Bool:=decide (3<=r.length)&&(decide (r.length<=2000)&&r.all bk)
def gz(r:List Pt):List bT:=r.zip (r.tail++r.take 1)
def fw(r:List Pt)(i:Nat):bT:=((r[i]?).getD (0,0),(r[(i+1) % r.length]?).getD (0,0))
def nQ(r:List Pt)(i k:Nat):Bool:=bif(i-k==1||i-k==r.length-1) then an (ld (fw r i) (fw r k)) 1 else an (ld (fw r i) (fw r k)) 0
def kz(r:List Pt):Bool:=pz r&&((ix r.length).all fun i=>(ix i).all fun k=>nQ r i k)
def vS(a b c:Pt):Int:=(b.1-a.1)*(c.2-b.2)-(b.2-a.2)*(c.1-b.1)
def rt(a n b:Int):Bool:=decide (min a b<=n)&&decide (n<=max a b)
def A6(s:bT)(p:Pt):Bool:=an (vS s.1 s.2 p) 0&&(rt s.1.1 p.1 s.2.1&&rt s.1.2 p.2 s.2.2)
def v6(s:bT)(p:Pt):Int:=bif cr s.1.2 p.2&&(bc p.2 s.2.2&&bc 0 (vS s.1 s.2 p)) then 1 else bif bc p.2 s.1.2&&(cr s.2.2 p.2&&bc (vS s.1 s.2 p) 0) then-1 else 0
def yU(p:Pt):List bT->Int->Int
 | [],w=>bif an w 0 then-1 else 1
 |s::l,w=>bif A6 s p then 0 else yU p l (w+v6 s p)
def qI(r:List Pt)(p:Pt):Int:=yU p (gz r) 0
def sn(r:List Pt)(p:Pt):Int:=bif kz r&&bk p then qI r p else-1
def o7(r:List Pt):List Pt:=r.map fun p=>(2*p.1,2*p.2)
def Au(r s:List Pt)(v:Int):Nat:=((gz r).filter fun x=>an (qI (o7 s) (x.1.1+x.2.1,x.1.2+x.2.2)) v).length
def oK(a b:bT):Bool:=an (ld a b) 2||(an (ld a b) 3||an (ld a b) 5)
def qa(r s:List Pt):Int:=
 bif !(kz r&&kz s) then 0 else
 bif(gz r).any (fun a=>(gz s).any fun b=>oK a b) then 0 else
 bif(decide (0<Au r s 1)&&decide (0<Au r s (-1)))||(decide (0<Au s r 1)&&decide (0<Au s r (-1))) then 0 else
 bif decide (0<Au r s 1) then 2 else
 bif decide (0<Au s r 1) then 3 else
 bif decide (0<Au r s (-1)) then 1 else 4
def zu(m:List Obj)(o:Obj):Option (List Pt):=bif an o.uP 3&&o.gE.all (ei m) then some (o.gE.map (fJ m)) else none
def tY(m:List Obj)(o:Obj):Option (List Pt):=(zu m o).bind fun r=>bif kz r then some r else none
def vD(m:List Obj)(id:ag):Option (List Pt):=(dP id m).bind (tY m)
def kB(m:List Obj)(r:ag):Option (List ag):=(dP r m).bind fun q=>bif an q.uP 2&&q.gE.all (ei m) then some q.gE else none
def ue(m:List Obj)(o:Obj):Bool:=((ix o.gE.length).zip o.gE).all fun p=>bif an o.uP 5&&p.1==1 then ei m p.2 else(kB m p.2).isSome
def Av(l:List ag):ag×ag:=(l.headD [],l.getLastD [])
def Bn(f:ag×ag×Bool×Bool)(e:ag×ag):ag×ag×Bool×Bool:=
 (e.1,e.2,((f.2.2.1&&f.1==e.2)||(f.2.2.2&&f.2.1==e.2)),((f.2.2.1&&f.1==e.1)||(f.2.2.2&&f.2.1==e.1)))
def Et(m:List Obj)(o:Obj):Bool:=match o.gE.map fun r=>Av ((kB m r).getD []) with
 | []=>true
 |e::l=>(l.foldl Bn (e.1,e.2,true,true)).2.2.1||(l.foldl Bn (e.1,e.2,true,true)).2.2.2
def GP(m:List Obj)(o:Obj):Bool:=((kB m (o.gE.getD 0 [])).getD []).contains (o.gE.getD 1 [])&&((kB m (o.gE.getD 2 [])).getD []).contains (o.gE.getD 1 [])
def kR(k:Int)(i:Nat):Int:=bif an k 4||(an k 5&& !(i==1)) then 2 else 1
def Kg(m:List Obj)(o:Obj):Bool:=((ix o.gE.length).zip o.gE).all fun p=>an (pV m p.2) (kR o.uP p.1)
structure aI where
 strict:Bool
 area:ag
 uP:Int
 ifK:ag
 ifV:ag
 op:Int
 key:ag
 valuesV:aa
 values:List ag
def tF(s:ag):Bool:= !(s== [])&&decide (s.length<=200)
def t8(x:aI):Bool:=
 bif !(x.area== [])&& !gU x.area then false else bif bc x.uP 0 then false else bif bc 5 x.uP then false else bif !gU x.key then false else
 bif !((x.ifK== [])&&(x.ifV== []))&& !(gU x.ifK&&tF x.ifV) then false else
 bif !(an x.op 2)&&(!(an x.op 1)&& !(an x.op 3)) then false else bif !(an x.op 2==decide (0<x.values.length)) then false else bif decide (60<x.values.length) then false else
 x.values.all tF
def oH(l:List aI):Bool:=decide (l.length<=200)&&l.all t8
def vk(x:aI)(o:Obj):Bool:=bif an x.op 3 then(dM x.key o.gT).isNone else bif an x.op 2 then(match dM x.key o.gT with|some v=>x.values.contains v|none=>true) else(dM x.key o.gT).isSome
def Mv(x:aI)(o:Obj):Bool:=(an x.uP 0||an x.uP o.uP)&&((x.ifK== [])||dM x.ifK o.gT==some x.ifV)
def lU:ag:=[118,105,101,119]
def QE(o:Obj):Option ag:=(dM lU o.gT).bind fun s=>bif gU s then some s else none
def tB(name:ag)(o:Obj):Bool:=match QE o with|some s=>s==name|none=>true
def gi(m:List Obj)(name:ag):List Obj:=m.filter (tB name)
def lL:List ag->List ag->Bool
 | [],[]=>false
 | [],_::_=>true
 |_::_,[]=>false
 |a::x,b::y=>bif a==b then lL x y else fN a b
def ad9(a:ag):gu a a=0:=by unfold gu;rw[Xl];rfl
def ad6(a b:ag):bc (gu a b) 0=fN a b:=by
 unfold gu;cases fN a b with
 |true=>rfl
 |false=>cases fN b a<;>rfl
def LX: ∀a b:List ag,lL a b=bc (fH a b) 0
 | [],[]=>rfl
 | [],_::_=>rfl
 |_::_,[]=>rfl
 |a::x,b::y=>by
  simp only[lL,fH];by_cases h:a=b;subst h;rw[bS,ad9];exact LX x y;have f:gu a b≠0:=fun e=>h (Tz e);rw[bN.2 h,oq f];exact(ad6 a b).symm
def wV(a b:List ag):Bool:= !lL a b&& !lL b a
def aen(a:List ag):fH a a=0:=by have:=B8 a a;omega
def agY(a b:List ag):wV a b=an (fH a b) 0:=by
 unfold wV;rw[LX,LX,B8 a b];unfold bc;rcases DQ (fH a b) 0 with h|h|h
 rw[dQ h,oq (by omega)];rfl;rw[h];rfl;rw[dN (show¬fH a b<0 by omega),dQ (show-fH a b<0 by omega),oq (by omega)];rfl
def ael(a b:Int×Int):Int:=bif bc a.1 b.1||(an a.1 b.1&&bc a.2 b.2) then-1 else bif gh a b then 0 else 1
def pC{f:Nat}{T:dX}(B:dR T){sp:Sp}(h: ∀args u,sp args=some u->pures args=true/\ ∃v s',aq (QT T) f args s0 v s'/\s'.ci=0/\fY s'.heap v u):db ae f sp:=by
 intro args x m G q w i j k;obtain⟨g,v,s',o,A,z⟩:=h args x m;exact ni (Q:=QT T) (mW B) (fun _=>Nat.zero_lt_succ 1) (args:=args) (v:=v) (s':=s') (xM g) (by rw[lh g];exact o) A z G q w i j k
variable{s:St}
def cR.isL{sz lo:Nat}{ov:aa}{α:Type}{enc:α->aa}{l:List α}(h:cR sz lo s ov (l.map enc)):ay sz enc ov l:=by
 rcases h with⟨g,f⟩|⟨_,k,f,_⟩
 exact .inl ⟨g,List.map_eq_nil_iff.1 f⟩;exact .inr ⟨_,f⟩
def acR(u:aa):Option (List Obj):=bif bL u then lz u else none
def x9(u:aa):Option (List ag):=bif bL u then eX 1 jl u else none
variable{l:List ag}{v:aa}
def Hx(h:ay 1 aG v l)(f:bL v=true):x9 v=some l:=by
 simp only[x9,f,cT,mX oc h]
variable{u:aa}
def Hw(h:x9 u=some l):ay 1 aG u l/\bL u=true:=by
 unfold x9 at h;obtain⟨f,h⟩:=bh h;exact⟨kr (fun v a=>pM) h,f⟩
def BO(u:aa):Option (List fE):=bif bL u then eX 2 uS u else none
variable{l:List fE}
def acX(h:ay 2 jd v l)(f:bL v=true):BO v=some l:=by
 simp only[BO,f,cT,mX Hz h]
def acW(h:BO u=some l):ay 2 jd u l/\bL u=true:=by
 unfold BO at h;obtain⟨f,h⟩:=bh h;exact⟨kr (fun v a=>Hy) h,f⟩
variable{n:Nat}
def dB(h:n<4611686018427387904):IntKind.i64.wrap ((n:Int)+1)=((n+1:Nat):Int):=by rw[iC (by omega) (by omega)];omega
def S4:aa->Option (List aa)->Option (FuncId×List aa)
 | .func (.func f) first captured,args=>args.bind fun args=>some (f,first++(args++captured))
 |_,_=>none
def adC(e:ax)(t:Nat)(xs:Array Operand)(f:Array TypeId):callee e ⟨.value (.tmp t),xs,f⟩=S4 (ac e t) (evcs e xs.toList):=by
 simp only[callee,aA,Option.bind_some];cases ac e t with
 |func fn a b=>cases fn<;>rfl
 |_=>rfl
def adB(f:FuncId)(a b args:List aa):S4 (.func (.func f) a b) (some args)=some (f,a++(args++b)):=rfl
def ru(P:Program)(mk:aK)(f:List TypeId)(g:Bool)(x y:Int)(s:St):jH P mk .max f g [.int .i64 x,.int .i64 y] s=some (.int .i64 (max x y),s):=by
 have:(bif bc x y then y else x)=max x y:=by
  unfold bc;by_cases h:x<y;simp[h];omega;simp[h];omega
 simp[jH,tM,this]
def sY(P:Program)(mk:aK)(f:List TypeId)(g:Bool)(x y:Int)(s:St):jH P mk .min f g [.int .i64 x,.int .i64 y] s=some (.int .i64 (min x y),s):=by
 have:(bif bc y x then y else x)=min x y:=by
  unfold bc;by_cases h:y<x;simp[h];omega;simp[h];omega
 simp[jH,tM,this]
def Ef(P:Program)(mk:aK)(f:List TypeId)(g:Bool)(x y:ag)(s:St):jH P mk .max f g [.str x,.str y] s=some (.str (CQ x y),s):=rfl
def Ee(P:Program)(mk:aK)(f:List TypeId)(g:Bool)(x y:ag)(s:St):jH P mk .min f g [.str x,.str y] s=some (.str (CS x y),s):=rfl
def oE(a b c d:Int):eB ae .eql 49 (.agg [.int .i64 a,.int .i64 b]) (.agg [.int .i64 c,.int .i64 d])=some (.bool (gh (a,b) (c,d))):=PJ a b c d
def Zl(a b c d:Int):eB ae .neq 49 (.agg [.int .i64 a,.int .i64 b]) (.agg [.int .i64 c,.int .i64 d])=some (.bool (!gh (a,b) (c,d))):=by
 have h:=oE a b c d;rw[LD] at h;rw[acC];generalize wP ae 49 (.agg [.int .i64 a,.int .i64 b]) (.agg [.int .i64 c,.int .i64 d])=x at*;generalize gh (a,b) (c,d)=y at*;cases x with
 |none=>cases h
 |some x=>
  injection h with h;injection h with h
  subst h;rfl
def Dp(a b c d e f g h:Int):eB ae .eql 285 (.agg [.int .i64 a,.int .i64 b,.int .i64 c,.int .i64 d]) (.agg [.int .i64 e,.int .i64 f,.int .i64 g,.int .i64 h])=some (.bool (sm ((a,b),(c,d)) ((e,f),(g,h)))):=by
 have k:wP ae 285 (.agg [.int .i64 a,.int .i64 b,.int .i64 c,.int .i64 d]) (.agg [.int .i64 e,.int .i64 f,.int .i64 g,.int .i64 h])=
  ((some (an a e)).bind fun r=>bif r then(some (an b f)).bind fun r=>bif r then some true else some false else some false).bind fun r=>bif r then((some (an c g)).bind fun r=>bif r then(some (an d h)).bind fun r=>bif r then some true else some false else some false).bind fun r=>bif r then some true else some false else some false:=by kernel_rfl
 rw[LD,k];simp only[sm,gh];cases an a e<;>cases an b f<;>cases an c g<;>cases an d h<;>rfl
def bX(s:bT):aa:=.agg [.int .i64 s.1.1,.int .i64 s.1.2,.int .i64 s.2.1,.int .i64 s.2.2]
def uR:aa->Option bT
 | .agg [.int .i64 a,.int .i64 b,.int .i64 c,.int .i64 d]=>some ((a,b),(c,d))
 |_=>none
def Ai{p:bT}(h:uR v=some p):v=bX p:=by
 unfold uR at h;split at h;injection h with h;subst h;rfl
 cases h
def Hu(s:bT):uR (bX s)=some s:=rfl
def aqu(s:bT):bL (bX s)=true:=rfl
def JJ(h:bk p=true):(-2097152<=p.1/\p.1<=2097152)/\(-2097152<=p.2/\p.2<=2097152):=by
 simp only[bk,bc,bu,Bool.not_eq_true',decide_eq_false_iff_not] at h;omega
variable{fn:Func}{args:List aa}{sc:SC}{Q:aH}
def aq.ofW{f:FuncId}{t:Tmp}{s':St}(q:Q.P.funcs[f]? =some fn)(w:fn.body.map eD=some sc)(o:fn.ntmps=n)(m:fn.results.toList=[.tmp t])(g:Q.spec f=none)(k:v.ge=true)(h:W Q f sc (ii n args) s fun x i j=>j=s'/\(x= .normal\/x= .ret)/\ac i.env t=v)(A:Q.specH f=none:=by rfl)(z:Q.specW f=none:=by rfl):aq Q f args s v s':=
 aq.of2 q w o m g (h.mono fun _ _ _ ⟨D,C,B⟩=>⟨D,C,dZ B k⟩) A z
def aq.ofZ(o:Q.P=ae)(q: ∀f,Q.specH f=none){N:Nat}{t:Tmp}(F:bK N fn sc n [.tmp t]){s':St}(g:Q.spec N=none)(m:Q.specW N=none)(k:v.ge=true)(h:W Q N sc (ii n args) s fun x i j=>j=s'/\(x= .normal\/x= .ret)/\ac i.env t=v):aq Q N args s v s':=aq.ofW (by rw[o];exact F.1) F.2 F.3 F.4 g k h (q N) m
variable{K:Ex->Fr->St->Prop}{l:List Pt}
section
variable{sp:SpZ}
def am8(C:ay 2 aU v l)(F:l.length<=1000000)(E: ∀e lc,l.all bk=true->K (.exit 0) ⟨e,26,lc⟩ s)(B: ∀e lc,l.all bk=false->ac e 2= .bool false->K .ret ⟨e,26,lc⟩ s):
 ∀(r f:List Pt) (e:ax) (lc:Ag.Loc),l=f++r->l.all bk=r.all bk->ac e 5=v->ac e 6= .int .i64 (l.length:Nat)->ac e 7= .int .i64 (f.length:Nat)->W (QS sp) 311 (.loop Fi) ⟨e,26,lc⟩ s K:=by
 have o:=C.ge;intro r
 induction r with
 |nil=>
  intro f e lc m h k j i;have z:l.length=f.length:=by rw[m];simp
  refine W.loopF ?_;simp only[go_sem,seval,Fi,k,j,i,o,z,cD];exact E _ _ h
 |cons p r D=>
  intro f e lc m h k j i;have g:f.length<l.length:=by rw[m];simp
  have A:l[f.length]? =some p:=by rw[m];simp
  have q:=fun lc=>C.at pB.2.2.1 A lc .i64;have w:=dB (n:=f.length) (by omega);rw[ju] at h;refine W.loopF ?_;cases e1:bc 2097152 (max p.1 p.2) with
  |true=>
   simp only[go_sem,seval,Fi,k,j,i,o,q,g,aU,ru,sY,e1];exact B _ _ (by rw[h];simp only[bk,e1,fp,dW]) (by simp only[sG,seval, *])
  |false=>
   cases e2:bc (min p.1 p.2) (-2097152) with
   |true=>
    simp only[go_sem,seval,Fi,k,j,i,o,q,g,aU,ru,sY,e1,e2];exact B _ _ (by rw[h];simp only[bk,e1,e2,fp,gN,dW]) (by simp only[sG,seval, *])
   |false=>
    simp only[go_sem,seval,Fi,k,j,i,o,q,g,aU,ru,sY,e1,e2,w];exact D (f++[p]) _ _ (by rw[m];simp) (by rw[h];simp only[bk,e1,e2,hG,cw,eH]) (by simp only[sG,seval, *]) (by simp only[sG,seval, *]) (by simp only[sN,seval,sA])
def am9(f:sp 311=none)(h:ay 2 aU v l)(k:l.length<=1000000)(s:St):aq (QS sp) 311 [v] s (.bool (l.all bk)) s:=by
 have o:=h.ge;have i:=fun j s=>h.lenS pB j s;refine aq.of3 IZ.1 IZ.2 IZ.3 IZ.4 f rfl ?_;simp only[go_sem,seval,o,i];refine am8 h k ?_ ?_ l [] _ _ rfl rfl (by simp only[sG,seval, *]) (by simp only[sG,seval, *]) (by simp only[sN,seval];rfl);intro e lc g;simp only[go_sem,seval,g];intro e lc g m;simp only[go_sem,seval,m,g]
end
def rU:Sp
 | [u]=>bif bL u then(eX 2 jT u).bind fun l=>bif Nat.ble l.length 1000000 then some (.bool (l.all bk)) else none else none
 |_=>none
def X4(f:l.length<=1000000):rU [.list 2 (l.map aU) .GE]=some (.bool (l.all bk)):=by
 have g:bL (.list 2 (l.map aU) .GE)=true:=by simp[bL,vE Gb]
 simp only[adz,rU,g,mX wB (.inr ⟨.GE,rfl⟩:ay 2 aU (.list 2 (l.map aU) .GE) l),Nat.ble_eq_true_of_le f]
def X2(i:bk a=true)(g:bk b=true)(f:bk c=true):rU [.list 2 [.agg [.int .i64 a.1,.int .i64 a.2],.agg [.int .i64 b.1,.int .i64 b.2],.agg [.int .i64 c.1,.int .i64 c.2]] .GE]=some (.bool true):=by
 have h:=X4 (l:=[a,b,c]) (by simp);simp only[ju,List.all_nil,i,g,f,cw] at h;exact h
def am5{d:Pt}(j:bk a=true)(i:bk b=true)(g:bk c=true)(f:bk d=true):rU [.list 2 [.agg [.int .i64 a.1,.int .i64 a.2],.agg [.int .i64 b.1,.int .i64 b.2],.agg [.int .i64 c.1,.int .i64 c.2],.agg [.int .i64 d.1,.int .i64 d.2]] .GE]=some (.bool true):=by
 have h:=X4 (l:=[a,b,c,d]) (by simp);simp only[ju,List.all_nil,j,i,g,f,cw] at h;exact h
def O9:db ae 311 rU:=by
 refine pC dR.nil fun args u h=>?_;unfold rU at h;split at h;obtain⟨g,h⟩:=bh h;simp only[ak] at h;obtain⟨l,j,h⟩:=h;obtain⟨i,h⟩:=bh h;have h:=sI h;subst h;exact⟨by simp only[pures,g,cw],_,_,am9 (sp:=fun f=>gL f []) rfl (kr (fun v a=>mj) j) (Nat.le_of_ble_eq_true i) _,rfl,⟨1,rfl⟩⟩;cases h
variable{x y:Int}
def DC(g: -4194304<=x/\x<=4194304)(f: -4194304<=y/\y<=4194304):IntKind.i64.wrap (x-y)=x-y:=iC (by omega) (by omega)
def CV(g: -8388608<=x/\x<=8388608)(f: -8388608<=y/\y<=8388608): -70368744177664<=x*y/\x*y<=70368744177664:=by
 have h:(x*y).natAbs<=8388608*8388608:=by
  rw[Int.natAbs_mul];exact Nat.mul_le_mul (by omega) (by omega)
 omega
def FM(g: -8388608<=x/\x<=8388608)(f: -8388608<=y/\y<=8388608):IntKind.i64.wrap (x*y)=x*y:=by
 have:=CV g f;exact iC (by omega) (by omega)
def vV(p:Pt):Bool:=decide (-4194304<=p.1)&&decide (p.1<=4194304)&&decide (-4194304<=p.2)&&decide (p.2<=4194304)
def abg(h:vV p=true):(-4194304<=p.1/\p.1<=4194304)/\(-4194304<=p.2/\p.2<=4194304):=by
 simp only[vV,bu,dE] at h;omega
section
variable{sp:SpZ}
def arK(f:sp 420=none)(j:bk a=true)(i:bk b=true)(s:St):aq (QS sp) 420 [aU a,aU b] s (aU (b.1-a.1,b.2-a.2)) s:=by
 have m:=JJ j;have k:=JJ i;have h:=DC (x:=b.1) (y:=a.1) (by omega) (by omega);have g:=DC (x:=b.2) (y:=a.2) (by omega) (by omega);refine aq.of4 Ji.1 Ji.2 Ji.3 Ji.4 f ?_;simp only[go_sem,seval,aU,h,g,bj,bg,aZ,bf,evc]
def aeC(f:sp 421=none)(k:vV a=true)(j:vV b=true)(s:St):aq (QS sp) 421 [aU a,aU b] s (cd (a.1*b.2-a.2*b.1)) s:=by
 have w:=abg k;have q:=abg j;have o:=CV (x:=a.1) (y:=b.2) (by omega) (by omega);have m:=CV (x:=a.2) (y:=b.1) (by omega) (by omega);have i:=FM (x:=a.1) (y:=b.2) (by omega) (by omega);have h:=FM (x:=a.2) (y:=b.1) (by omega) (by omega);have g:IntKind.i64.wrap (a.1*b.2-a.2*b.1)=a.1*b.2-a.2*b.1:=iC (by omega) (by omega);refine aq.of3 Jj.1 Jj.2 Jj.3 Jj.4 f rfl ?_;simp only[go_sem,seval,aU,cd,qy,i,h,g]
end
def DE:Sp
 | [u,v]=>(jT u).bind fun a=>(jT v).bind fun b=>bif bk a&&bk b then some (aU (b.1-a.1,b.2-a.2)) else none
 |_=>none
def aa7(g:bk a=true)(f:bk b=true):DE [aU a,aU b]=some (aU (b.1-a.1,b.2-a.2)):=by
 simp only[adz,DE,wB,g,f,cw]
def arJ:db ae 420 DE:=by
 refine pC dR.nil fun args u h=>?_;unfold DE at h;split at h;simp only[ak] at h;obtain⟨a,j,b,i,h⟩:=h;obtain⟨g,h⟩:=bh h;simp only[bu] at g;have h:=sI h;subst h;rw[mj j,mj i];exact⟨rfl,_,_,arK (sp:=fun f=>gL f []) rfl g.1 g.2 _,rfl,⟨2,rfl⟩⟩;cases h
def Cb:Sp
 | [u,v]=>(jT u).bind fun a=>(jT v).bind fun b=>bif vV a&&vV b then some (cd (a.1*b.2-a.2*b.1)) else none
 |_=>none
def aez(g:vV a=true)(f:vV b=true):Cb [aU a,aU b]=some (cd (a.1*b.2-a.2*b.1)):=by
 simp only[adz,Cb,wB,g,f,cw]
def aeA:db ae 421 Cb:=by
 refine pC dR.nil fun args u h=>?_;unfold Cb at h;split at h;simp only[ak] at h;obtain⟨a,j,b,i,h⟩:=h;obtain⟨g,h⟩:=bh h;simp only[bu] at g;have h:=sI h;subst h;rw[mj j,mj i];exact⟨rfl,_,_,aeC (sp:=fun f=>gL f []) rfl g.1 g.2 _,rfl,⟨1,rfl⟩⟩;cases h
def abh(g:bk a=true)(f:bk b=true):vV (b.1-a.1,b.2-a.2)=true:=by
 have i:=JJ g;have h:=JJ f;simp only[vV,bu,dE];omega
section
variable{sp:SpZ}
def aoZ(i:sp 313=none)(j:sp 311=some rU)(h:sp 420=some DE)(g:sp 421=some Cb)(k:sp 232=some o5)(f:bk a=true)(o:bk b=true)(m:bk c=true)(s:St):aq (QS sp) 313 [aU a,aU b,aU c] s (cd (du a b c)) s:=by
 have B:=X2 f o m;have A:=aa7 f o;have z:=aa7 f m;have w:=aez (abh f o) (abh f m);have q:o5 [cd ((b.1-a.1)*(c.2-a.2)-(b.2-a.2)*(c.1-a.1)),.int .i64 0]=some (cd (du a b c)):=rfl;simp only[aU,cd] at B A z w q;refine aq.of3 I5.1 I5.2 I5.3 I5.4 i rfl ?_;simp only[go_sem,seval,aU,cd,bj,bg,aZ,bf,evc,adC,adB,rR,j,h,g,k,B,A,z,w,q]
def aq9(g:sp 312=none)(f:sp 379=some si)(t:bT)(s:St):aq (QS sp) 312 [bX t] s (bX (gY t)) s:=by
 obtain⟨⟨a,b⟩,c,d⟩:=t;have h:si [.agg [.int .i64 a,.int .i64 b],.agg [.int .i64 c,.int .i64 d]]=some (.int .i64 (gg (a,b) (c,d))):=rfl;refine aq.of4 I4.1 I4.2 I4.3 I4.4 g ?_;unfold gY;cases e1:bc 0 (gg (a,b) (c,d)) with
 |true=>simp only[go_sem,seval,bX,f,h,e1]
 |false=>simp only[go_sem,seval,bX,f,h,e1]
end
def tW:Sp
 | [u,v,w]=>(jT u).bind fun a=>(jT v).bind fun b=>(jT w).bind fun c=>bif bk a&&(bk b&&bk c) then some (cd (du a b c)) else none
 |_=>none
def aoY(h:bk a=true)(g:bk b=true)(f:bk c=true):tW [aU a,aU b,aU c]=some (cd (du a b c)):=by
 simp only[adz,tW,wB,h,g,f,cw]
def Ry:dX:=[(311,rU),(420,DE),(421,Cb),(232,o5)]
def abY:dR Ry:=.cons O9 (.cons arJ (.cons aeA (.cons HH .nil)))
def Y2:db ae 313 tW:=by
 refine pC abY fun args u h=>?_;unfold tW at h;split at h;simp only[ak] at h;obtain⟨a,k,b,j,c,i,h⟩:=h;obtain⟨g,h⟩:=bh h;simp only[bu] at g;have h:=sI h;subst h;rw[mj k,mj j,mj i];exact⟨rfl,_,_,aoZ (sp:=fun f=>gL f Ry) rfl rfl rfl rfl rfl g.1 g.2.1 g.2.2 _,rfl,⟨1,rfl⟩⟩;cases h
def Bm:Sp
 | [u]=>(uR u).bind fun t=>some (bX (gY t))
 |_=>none
def Rz:dX:=[(379,si)]
def abZ:dR Rz:=.cons PG .nil
def aay:db ae 312 Bm:=by
 refine pC abZ fun args u h=>?_;unfold Bm at h;split at h;simp only[ak] at h;obtain⟨t,g,h⟩:=h;have h:=sI h;subst h;rw[Ai g];exact⟨rfl,_,_,aq9 (sp:=fun f=>gL f Rz) rfl rfl t _,rfl,⟨2,rfl⟩⟩;cases h
variable{a b c:Int}
def A8{e f:Int}(i:bk (a,b)=true)(h:bk (c,d)=true)(g:bk (e,f)=true):tW [.agg [.int .i64 a,.int .i64 b],.agg [.int .i64 c,.int .i64 d],.agg [.int .i64 e,.int .i64 f]]=some (.int .i64 (du (a,b) (c,d) (e,f))):=aoY (a:=(a,b)) (b:=(c,d)) (c:=(e,f)) i h g
def zj(a b c d:Int):si [.agg [.int .i64 a,.int .i64 b],.agg [.int .i64 c,.int .i64 d]]=some (.int .i64 (gg (a,b) (c,d))):=rfl
def Ql(a b c d:Int):Bm [.agg [.int .i64 a,.int .i64 b,.int .i64 c,.int .i64 d]]=some (bX (gY ((a,b),(c,d)))):=rfl
def Qk{s:bT}(g:bk s.1=true)(f:bk s.2=true):bk (gY s).1=true/\bk (gY s).2=true:=by
 rcases Qj s with e|e<;>rw[e]
 exact⟨g,f⟩;exact⟨f,g⟩
section
variable{sp:SpZ}
def an3(w:sp 422=none)(j:sp 311=some rU)(i:sp 312=some Bm)(h:sp 313=some tW)(g:sp 379=some si)(E:bk t.1=true)(D:bk t.2=true)(C:bk p=true)(s:St):aq (QS sp) 422 [bX t,aU p] s (.bool (sa t p)) s:=by
 have B:=Qk E D;have q:sa t p=(an (du (gY t).1 (gY t).2 p) 0&&(cr (gg (gY t).1 p) 0&&(cr (gg p (gY t).2) 0&&(!gh (gY t).1 (gY t).2||gh p (gY t).1)))):=rfl;obtain⟨⟨a,b⟩,c,d⟩:=t;obtain⟨e,f⟩:=p;have o:=X2 E D C;have m:=Ql a b c d;rw[q];clear q;generalize gY ((a,b),(c,d))=S at*;obtain⟨⟨a',b'⟩,c',d'⟩:=S;have k:=A8 B.1 B.2 C;have z:=zj a' b' e f;have A:=zj e f c' d';refine aq.of3 Jk.1 Jk.2 Jk.3 Jk.4 w rfl ?_;cases e1:an (du (a',b') (c',d') (e,f)) 0 with
 |false=>simp only[go_sem,seval,bX,aU,bj,bg,aZ,bf,evc,j,i,h,g,o,m,k,e1,dW]
 |true=>
  cases e2:cr (gg (a',b') (e,f)) 0 with
  |false=>simp only[go_sem,seval,bX,aU,bj,bg,aZ,bf,evc,j,i,h,g,o,m,k,z,e1,e2,eH,dW]
  |true=>
   cases e3:cr (gg (e,f) (c',d')) 0 with
   |false=>simp only[go_sem,seval,bX,aU,bj,bg,aZ,bf,evc,j,i,h,g,o,m,k,z,A,e1,e2,e3,eH,dW]
   |true=>
    cases e4:gh (a',b') (c',d') with
    |false=>simp only[go_sem,seval,bX,aU,bj,bg,aZ,bf,evc,j,i,h,g,o,m,k,z,A,e1,e2,e3,e4,Zl,oE,eH,hG]
    |true=>simp only[go_sem,seval,bX,aU,bj,bg,aZ,bf,evc,j,i,h,g,o,m,k,z,A,e1,e2,e3,e4,Zl,oE,eH,fp]
end
def ze:Sp
 | [u,v]=>(uR u).bind fun t=>(jT v).bind fun p=>bif bk t.1&&(bk t.2&&bk p) then some (.bool (sa t p)) else none
 |_=>none
def anN(h:bk t.1=true)(g:bk t.2=true)(f:bk p=true):ze [bX t,aU p]=some (.bool (sa t p)):=by
 simp only[adz,ze,Hu,wB,h,g,f,cw]
def RA:dX:=[(311,rU),(312,Bm),(313,tW),(379,si)]
def ab0:dR RA:=.cons O9 (.cons aay (.cons Y2 (.cons PG .nil)))
def anP:db ae 422 ze:=by
 refine pC ab0 fun args u h=>?_;unfold ze at h;split at h;simp only[ak] at h;obtain⟨t,j,p,i,h⟩:=h;obtain⟨g,h⟩:=bh h;simp only[bu] at g;have h:=sI h;subst h;rw[Ai j,mj i];exact⟨rfl,_,_,an3 (sp:=fun f=>gL f RA) rfl rfl rfl rfl rfl g.1 g.2.1 g.2.2 _,rfl,⟨1,rfl⟩⟩;cases h
variable{lc:Ag.Loc}{a' b' c' d':Int}{g2 g3:Nat}{e:ax}
section
variable{sp:SpZ}
noncomputable def N3:SC:=(.seq (.seq (.region Wx) (.cond (aD 18) (.seq (.block 0 (.seq (.region Wy) (.cond (aD 19) (.seq (.region Wz) .ret) (.seq (.region WA) (.cond (aD 25) (.seq (.region WB) .ret) .skip))))) (.seq (.region WD) .ret)) .skip)) (.seq (.draw WH I6) (.seq (.seq (.region Wn) (.cond (aD 46) (.region Wo) .skip)) (.seq (.seq (.region Wp) (.cond (aD 53) (.region Wq) .skip)) (.seq (.seq (.region Wr) (.block 1 (.seq (.region Ws) (.cond (aD 59) (.seq (.region Wt) .ret) (.seq (.region Wu) (.cond (aD 61) (.seq (.region Wv) .ret) .skip)))))) (.seq (.region Ww) .ret))))))
def ajY:Wl=(.seq (.region ajZ) (.seq (.seq (.region aj0) (.cond (aD 11) (.region aj1) .skip)) N3)):=rfl
noncomputable def Wm:SC:=(.seq (.draw WH I6) (.seq (.seq (.region Wn) (.cond (aD 46) (.region Wo) .skip)) (.seq (.seq (.region Wp) (.cond (aD 53) (.region Wq) .skip)) (.seq (.seq (.region Wr) (.block 1 (.seq (.region Ws) (.cond (aD 59) (.seq (.region Wt) .ret) (.seq (.region Wu) (.cond (aD 61) (.seq (.region Wv) .ret) .skip)))))) (.seq (.region Ww) .ret)))))
def ajX:N3=(.seq (.seq (.region Wx) (.cond (aD 18) (.seq (.block 0 (.seq (.region Wy) (.cond (aD 19) (.seq (.region Wz) .ret) (.seq (.region WA) (.cond (aD 25) (.seq (.region WB) .ret) .skip))))) (.seq (.region WD) .ret)) .skip)) Wm):=rfl
def an1(f:sp 379=some si)(A:s.gt<=s.aL)(e2:ac e 2= .Ge 2 g2 0)(q:ac e 3= .Ge 3 g3 0)(l2:lc.get 2 g2=some [.int .i64 a,.int .i64 b,.int .i64 c,.int .i64 d])(o:lc.get 3 g3=some [.int .i64 a',.int .i64 b',.int .i64 c',.int .i64 d'])(m:lc.gen 2=g2)(k:lc.gen 3=g3)(j:lc.gen 5=0)(i:lc.gen 6=0)(g: ∀e lc,ac e 4= .int .i64 (bif an (gg (rP ((a,b),(c,d)) ((a',b'),(c',d'))) (rK ((a,b),(c,d)) ((a',b'),(c',d')))) (-1) then 5 else bif an (gg (rP ((a,b),(c,d)) ((a',b'),(c',d'))) (rK ((a,b),(c,d)) ((a',b'),(c',d')))) 0 then 1 else 0)->K .ret ⟨e,63,lc⟩ s):
 W (QS sp) 314 Wm ⟨e,63,lc⟩ s K:=by
 have z:=zj a' b' a b;have w:=zj c' d' c d;refine cU (W.drawG A ?_);simp only[go_sem,I6,seval,e2,q,l2,o,m,k,j,i];refine WF.sound ?_;unfold rP rK at g;dsimp only at g;cases x1:bc 0 (gg (a',b') (a,b)) with
 |true=>
  cases x2:bc (gg (c',d') (c,d)) 0 with
  |true=>
   rw[x1,x2] at g;have h:=zj a' b' c' d';simp only[cT] at g;cases x3:an (gg (a',b') (c',d')) (-1) with
   |true=>
    simp only[go_sem,seval,e2,q,l2,o,m,k,j,i,f,z,w,h,x1,x2,x3];exact g _ _ (by simp only[sN,seval,x3])
   |false=>
    cases x4:an (gg (a',b') (c',d')) 0 with
    |true=>
     simp only[go_sem,seval,e2,q,l2,o,m,k,j,i,f,z,w,h,x1,x2,x3,x4];exact g _ _ (by simp only[sN,seval,x3,x4])
    |false=>
     simp only[go_sem,seval,e2,q,l2,o,m,k,j,i,f,z,w,h,x1,x2,x3,x4];exact g _ _ (by simp only[sN,seval,x3,x4])
  |false=>
   rw[x1,x2] at g;have h:=zj a' b' c d;simp only[cT,cF] at g;cases x3:an (gg (a',b') (c,d)) (-1) with
   |true=>
    simp only[go_sem,seval,e2,q,l2,o,m,k,j,i,f,z,w,h,x1,x2,x3];exact g _ _ (by simp only[sN,seval,x3])
   |false=>
    cases x4:an (gg (a',b') (c,d)) 0 with
    |true=>
     simp only[go_sem,seval,e2,q,l2,o,m,k,j,i,f,z,w,h,x1,x2,x3,x4];exact g _ _ (by simp only[sN,seval,x3,x4])
    |false=>
     simp only[go_sem,seval,e2,q,l2,o,m,k,j,i,f,z,w,h,x1,x2,x3,x4];exact g _ _ (by simp only[sN,seval,x3,x4])
 |false=>
  cases x2:bc (gg (c',d') (c,d)) 0 with
  |true=>
   rw[x1,x2] at g;have h:=zj a b c' d';simp only[cT,cF] at g;cases x3:an (gg (a,b) (c',d')) (-1) with
   |true=>
    simp only[go_sem,seval,e2,q,l2,o,m,k,j,i,f,z,w,h,x1,x2,x3];exact g _ _ (by simp only[sN,seval,x3])
   |false=>
    cases x4:an (gg (a,b) (c',d')) 0 with
    |true=>
     simp only[go_sem,seval,e2,q,l2,o,m,k,j,i,f,z,w,h,x1,x2,x3,x4];exact g _ _ (by simp only[sN,seval,x3,x4])
    |false=>
     simp only[go_sem,seval,e2,q,l2,o,m,k,j,i,f,z,w,h,x1,x2,x3,x4];exact g _ _ (by simp only[sN,seval,x3,x4])
  |false=>
   rw[x1,x2] at g;have h:=zj a b c d;simp only[cF] at g;cases x3:an (gg (a,b) (c,d)) (-1) with
   |true=>
    simp only[go_sem,seval,e2,q,l2,o,m,k,j,i,f,z,w,h,x1,x2,x3];exact g _ _ (by simp only[sN,seval,x3])
   |false=>
    cases x4:an (gg (a,b) (c,d)) 0 with
    |true=>
     simp only[go_sem,seval,e2,q,l2,o,m,k,j,i,f,z,w,h,x1,x2,x3,x4];exact g _ _ (by simp only[sN,seval,x3,x4])
    |false=>
     simp only[go_sem,seval,e2,q,l2,o,m,k,j,i,f,z,w,h,x1,x2,x3,x4];exact g _ _ (by simp only[sN,seval,x3,x4])
def anO{e f:Int}(i:bk (a,b)=true)(h:bk (c,d)=true)(g:bk (e,f)=true):ze [.agg [.int .i64 a,.int .i64 b,.int .i64 c,.int .i64 d],.agg [.int .i64 e,.int .i64 f]]=some (.bool (sa ((a,b),(c,d)) (e,f))):=anN (t:=((a,b),(c,d))) (p:=(e,f)) i h g
def YB(o:sp 379=some si)(f:sp 422=some ze)(z:bk (a,b)=true)(w:bk (a',b')=true)(q:bk (c',d')=true)(C:s.gt<=s.aL)(e2:ac e 2= .Ge 2 g2 0)(m:ac e 3= .Ge 3 g3 0)(l2:lc.get 2 g2=some [.int .i64 a,.int .i64 b,.int .i64 c,.int .i64 d])(k:lc.get 3 g3=some [.int .i64 a',.int .i64 b',.int .i64 c',.int .i64 d'])(j:lc.gen 2=g2)(i:lc.gen 3=g3)(B:lc.gen 5=0)(A:lc.gen 6=0)(g: ∀e lc,ac e 4= .int .i64 (xu ((a,b),(c,d)) ((a',b'),(c',d')))->K .ret ⟨e,63,lc⟩ s):
 W (QS sp) 314 N3 ⟨e,63,lc⟩ s K:=by
 rw[ajX];refine cU (WF.sound ?_);unfold xu at g;dsimp only at g;cases x1:gh (a,b) (c,d) with
 |false=>
  rw[x1] at g;simp only[go_sem,seval,e2,m,l2,k,j,i,oE,x1];refine an1 o C ?_ ?_ l2 k j i B A g
  all_goals simp only[sN,seval,e2,m]
 |true=>
  rw[x1] at g;have h:=anO w q z;simp only[cT] at g;cases x2:sa ((a',b'),(c',d')) (a,b) with
  |false=>
   rw[x2] at g;rw[x2] at h;simp only[go_sem,seval,e2,m,l2,k,j,i,oE,x1,f,h];exact g _ _ (by simp only[sN,seval])
  |true=>
   rw[x2] at g;rw[x2] at h;simp only[cT] at g;cases x3:gh (a,b) (a',b') with
   |true=>
    simp only[go_sem,seval,e2,m,l2,k,j,i,oE,x1,x3,f,h];exact g _ _ (by simp only[sN,seval,x3,iR])
   |false=>
    cases x4:gh (a,b) (c',d') with
    |true=>
     simp only[go_sem,seval,e2,m,l2,k,j,i,oE,x1,x3,x4,f,h];exact g _ _ (by simp only[sN,seval,x3,x4,li])
    |false=>
     simp only[go_sem,seval,e2,m,l2,k,j,i,oE,x1,x3,x4,f,h];exact g _ _ (by simp only[sN,seval,x3,x4,kh])
def an2(i:sp 314=none)(g:sp 379=some si)(f:sp 422=some ze){u v:bT}(k:bk u.1=true)(n2:bk u.2=true)(j:bk v.1=true)(o:bk v.2=true)(m:s.gt<=s.aL):aq (QS sp) 314 [bX u,bX v] s (cd (vt u v)) s:=by
 obtain⟨⟨a,b⟩,c,d⟩:=u;obtain⟨⟨a',b'⟩,c',d'⟩:=v;refine aq.ofW I7.1 I7.2 I7.3 I7.4 i rfl ?_;rw[ajY];refine cU (WF.sound ?_);simp only[go_sem,seval,bX];refine cU (WF.sound ?_);unfold vt;cases x1:gh (a',b') (c',d') with
 |true=>
  simp only[go_sem,seval,oE,x1];refine YB (a:=a') (b:=b') (c:=c') (d:=d') (a':=a) (b':=b) (c':=c) (d':=d) g f j k n2 m (g2:=1) (g3:=1) ?_ ?_ ?_ ?_ ?_ ?_ ?_ ?_ ?_
  case refine_9=>exact fun e lc h=>⟨rfl,.inr rfl,h⟩
  all_goals simp only[abc,cY,dj,gw,ah,bQ,bS]
 |false=>
  simp only[go_sem,seval,oE,x1];refine YB (a:=a) (b:=b) (c:=c) (d:=d) (a':=a') (b':=b') (c':=c') (d':=d') g f k j o m (g2:=1) (g3:=1) ?_ ?_ ?_ ?_ ?_ ?_ ?_ ?_ ?_
  case refine_9=>exact fun e lc h=>⟨rfl,.inr rfl,h⟩
  all_goals simp only[abc,cY,dj,gw,ah,bQ,bS]
end
def zf:Sp
 | [u,v]=>(uR u).bind fun a=>(uR v).bind fun b=>bif bk a.1&&(bk a.2&&(bk b.1&&bk b.2)) then some (cd (vt a b)) else none
 |_=>none
def anZ{a b:bT}(h:bk a.1=true)(n2:bk a.2=true)(g:bk b.1=true)(f:bk b.2=true):zf [bX a,bX b]=some (cd (vt a b)):=by
 simp only[adz,zf,Hu,h,n2,g,f,cw]
def RB:dX:=[(379,si),(422,ze)]
def ab1:dR RB:=.cons PG (.cons anP .nil)
def an0:db ae 314 zf:=by
 refine pC ab1 fun args u h=>?_;unfold zf at h;split at h;simp only[ak] at h;obtain⟨a,j,b,i,h⟩:=h;obtain⟨g,h⟩:=bh h;simp only[bu] at g;have h:=sI h;subst h;rw[Ai j,Ai i];exact⟨rfl,_,_,an2 (sp:=fun f=>gL f RB) rfl rfl rfl g.1 g.2.1 g.2.2.1 g.2.2.2 (Nat.le_refl _),rfl,⟨1,rfl⟩⟩;cases h
def Y4(a b c:Pt):du a b c= -1\/du a b c=0\/du a b c=1:=by
 unfold du;rcases B5 (gF a b c) with⟨e,_⟩|⟨e,_⟩|⟨e,_⟩<;>rw[e]<;>simp
def Y3(a b c d e f:Pt):IntKind.i64.wrap (du a b c*du d e f)=du a b c*du d e f:=by
 rcases Y4 a b c with h|h|h<;>rcases Y4 d e f with k|k|k<;>rw[h,k]<;>rfl
noncomputable def NN:SC:=(.seq (.draw ai0 NQ) (.seq (.draw ai1 NR) (.seq (.block 1 (.seq (.region aiN) (.cond (aD 92) (.seq (.region aiO) .ret) (.seq (.region aiP) (.cond (aD 103) (.seq (.region aiQ) .ret) (.seq (.region aiR) (.cond (aD 114) (.seq (.region aiS) .ret) .skip))))))) (.seq (.region aiT) .ret))))
noncomputable def NM:SC:=(.seq (.block 0 (.seq (.region aiW) (.cond (aD 24) (.seq (.region aiX) .ret) (.seq (.region aiY) (.cond (aD 28) (.seq (.region aiZ) .ret) .skip))))) NN)
def aiK:Wa=(.seq (.region aiL) (.seq (.seq (.region aiM) (.cond (aD 19) (.seq (.region aiU) .ret) .skip)) (.seq (.draw aiV NP) NM))):=rfl
section
variable{sp:SpZ}
set_option maxRecDepth 8000 in
set_option maxHeartbeats 2000000 in
def XM(f:sp 313=some tW)(E:bk (a,b)=true)(n2:bk (c,d)=true)(D:bk (a',b')=true)(C:bk (c',d')=true)(z:s.gt<=s.aL)(e2:ac e 2= .Ge 2 g2 0)(B:ac e 3= .Ge 3 g3 0)(l2:lc.get 2 g2=some [.int .i64 a,.int .i64 b,.int .i64 c,.int .i64 d])(w:lc.get 3 g3=some [.int .i64 a',.int .i64 b',.int .i64 c',.int .i64 d'])(q:lc.gen 2=g2)(o:lc.gen 3=g3)(A: ∀e lc,ac e 4= .int .i64 (qC ((a,b),(c,d)) ((a',b'),(c',d')))->K .ret ⟨e,125,lc⟩ s):W (QS sp) 225 NN ⟨e,125,lc⟩ s K:=by
 have m:=A8 E n2 D;have k:=A8 E n2 C;have j:=A8 D C E;have i:=A8 D C n2;have h:=Y3 (a,b) (c,d) (a',b') (a,b) (c,d) (c',d');have g:=Y3 (a',b') (c',d') (a,b) (a',b') (c',d') (c,d);unfold NN;refine WF.sound ?_;cases c1:bc 0 (du (a,b) (c,d) (a',b')*du (a,b) (c,d) (c',d')) with
 |true=>
  simp only[go_sem,seval,qy,e2,B,l2,w,q,o,z,f,m,k,j,i,h,g,c1];exact A _ _ (by simp only[sN,seval,qC,c1,li,kh,ut,iR,je,gN,cw,dW])
 |false=>
  cases c2:bc 0 (du (a',b') (c',d') (a,b)*du (a',b') (c',d') (c,d)) with
  |true=>
   simp only[go_sem,seval,qy,e2,B,l2,w,q,o,z,f,m,k,j,i,h,g,c1,c2];exact A _ _ (by simp only[sN,seval,qC,c1,c2,li,kh,ut,iR,je,gN,cw,dW])
  |false=>
   cases c3:bc (du (a,b) (c,d) (a',b')*du (a,b) (c,d) (c',d')) 0 with
   |true=>
    cases c4:bc (du (a',b') (c',d') (a,b)*du (a',b') (c',d') (c,d)) 0 with
    |true=>
     simp only[go_sem,seval,qy,e2,B,l2,w,q,o,z,f,m,k,j,i,h,g,c1,c2,c3,c4];exact A _ _ (by simp only[sN,seval,qC,c1,c2,c3,c4,li,kh,ut,iR,je,gN,cw,dW])
    |false=>
     cases c5:an (du (a,b) (c,d) (a',b')*du (a,b) (c,d) (c',d')) 0 with
     |true=>
      cases c6:an (du (a',b') (c',d') (a,b)*du (a',b') (c',d') (c,d)) 0 with
      |true=>
       simp only[go_sem,seval,qy,e2,B,l2,w,q,o,z,f,m,k,j,i,h,g,c1,c2,c3,c4,c5,c6];exact A _ _ (by simp only[sN,seval,qC,c1,c2,c3,c4,c5,c6,li,kh,ut,iR,je,gN,cw,dW])
      |false=>
       simp only[go_sem,seval,qy,e2,B,l2,w,q,o,z,f,m,k,j,i,h,g,c1,c2,c3,c4,c5,c6];exact A _ _ (by simp only[sN,seval,qC,c1,c2,c3,c4,c5,c6,li,kh,ut,iR,je,gN,cw,dW])
     |false=>
      simp only[go_sem,seval,qy,e2,B,l2,w,q,o,z,f,m,k,j,i,h,g,c1,c2,c3,c4,c5];exact A _ _ (by simp only[sN,seval,qC,c1,c2,c3,c4,c5,li,kh,ut,iR,je,gN,cw,dW])
   |false=>
    cases c5:an (du (a,b) (c,d) (a',b')*du (a,b) (c,d) (c',d')) 0 with
    |true=>
     cases c6:an (du (a',b') (c',d') (a,b)*du (a',b') (c',d') (c,d)) 0 with
     |true=>
      simp only[go_sem,seval,qy,e2,B,l2,w,q,o,z,f,m,k,j,i,h,g,c1,c2,c3,c5,c6];exact A _ _ (by simp only[sN,seval,qC,c1,c2,c3,c5,c6,li,kh,ut,iR,je,gN,cw,dW])
     |false=>
      simp only[go_sem,seval,qy,e2,B,l2,w,q,o,z,f,m,k,j,i,h,g,c1,c2,c3,c5,c6];exact A _ _ (by simp only[sN,seval,qC,c1,c2,c3,c5,c6,li,kh,ut,iR,je,gN,cw,dW])
    |false=>
     simp only[go_sem,seval,qy,e2,B,l2,w,q,o,z,f,m,k,j,i,h,g,c1,c2,c3,c5];exact A _ _ (by simp only[sN,seval,qC,c1,c2,c3,c5,li,kh,ut,iR,je,gN,cw,dW])
set_option maxRecDepth 8000 in
set_option maxHeartbeats 2000000 in
def amB(f:sp 313=some tW)(g:sp 314=some zf)(z:bk (a,b)=true)(n2:bk (c,d)=true)(B:bk (a',b')=true)(A:bk (c',d')=true)(D:s.gt<=s.aL)(e2:ac e 2= .Ge 2 g2 0)(m:ac e 3= .Ge 3 g3 0)(l2:lc.get 2 g2=some [.int .i64 a,.int .i64 b,.int .i64 c,.int .i64 d])(k:lc.get 3 g3=some [.int .i64 a',.int .i64 b',.int .i64 c',.int .i64 d'])(j:lc.gen 2=g2)(i:lc.gen 3=g3)(w: ∀e lc,ac e 4= .int .i64 (qN ((a,b),(c,d)) ((a',b'),(c',d')))->K .ret ⟨e,125,lc⟩ s):W (QS sp) 225 NM ⟨e,125,lc⟩ s K:=by
 have q:=A8 z n2 B;have o:=A8 z n2 A;have C:zf [.agg [.int .i64 a,.int .i64 b,.int .i64 c,.int .i64 d],.agg [.int .i64 a',.int .i64 b',.int .i64 c',.int .i64 d']]=some (.int .i64 (vt ((a,b),(c,d)) ((a',b'),(c',d')))):=anZ (a:=((a,b),(c,d))) (b:=((a',b'),(c',d'))) z n2 B A;unfold NM;refine cU (WF.sound ?_);cases x0:sm ((a,b),(c,d)) ((a',b'),(c',d')) with
 |true=>
  simp only[go_sem,seval,bX,bj,bg,aZ,bf,evc,oE,Dp,e2,m,l2,k,j,i,f,g,q,o,x0];exact w _ _ (by simp only[sN,seval,qN,x0])
 |false=>
 cases x1:gh (a,b) (c,d) with
 |true=>
  simp only[go_sem,seval,bX,bj,bg,aZ,bf,evc,oE,Dp,e2,m,l2,k,j,i,f,g,q,o,C,x0,x1];exact w _ _ (by simp only[sN,seval,qN,lF,x0,x1,iR,li,kh,kg,cw])
 |false=>
 cases x2:gh (a',b') (c',d') with
 |true=>
  simp only[go_sem,seval,bX,bj,bg,aZ,bf,evc,oE,Dp,e2,m,l2,k,j,i,f,g,q,o,C,x0,x1,x2];exact w _ _ (by simp only[sN,seval,qN,lF,x0,x1,x2,iR,li,kh,kg,cw])
 |false=>
 cases x3:an (du (a,b) (c,d) (a',b')) 0 with
 |false=>
  simp only[go_sem,seval,bX,bj,bg,aZ,bf,evc,oE,Dp,e2,m,l2,k,j,i,f,g,q,o,x0,x1,x2,x3];refine XM f z n2 B A D ?_ ?_ l2 k j i fun e lc h=>w e lc ?_;simp only[sN,seval,e2];simp only[sN,seval,m];rw[h];simp only[qN,lF,x0,x1,x2,x3,iR,li,kh,kg,gN,dW,cT,cF]
 |true=>
 cases x4:an (du (a,b) (c,d) (c',d')) 0 with
 |true=>
  simp only[go_sem,seval,bX,bj,bg,aZ,bf,evc,oE,Dp,e2,m,l2,k,j,i,f,g,q,o,C,x0,x1,x2,x3,x4];exact w _ _ (by simp only[sN,seval,qN,lF,x0,x1,x2,x3,x4,iR,li,kh,kg,cw])
 |false=>
  simp only[go_sem,seval,bX,bj,bg,aZ,bf,evc,oE,Dp,e2,m,l2,k,j,i,f,g,q,o,x0,x1,x2,x3,x4];refine XM f z n2 B A D ?_ ?_ l2 k j i fun e lc h=>w e lc ?_;simp only[sN,seval,e2];simp only[sN,seval,m];rw[h];simp only[qN,lF,x0,x1,x2,x3,x4,iR,li,kh,kg,gN,dW,cT,cF]
set_option maxRecDepth 8000 in
set_option maxHeartbeats 2000000 in
def amE(k:sp 225=none)(j:sp 311=some rU)(i:sp 312=some Bm)(g:sp 313=some tW)(f:sp 314=some zf){u v:bT}(z:bk u.1=true)(n2:bk u.2=true)(w:bk v.1=true)(q:bk v.2=true)(A:s.gt<=s.aL):aq (QS sp) 225 [bX u,bX v] s (cd (ld u v)) s:=by
 have D:=am5 z n2 w q;have o:=Qk z n2;have m:=Qk w q;obtain⟨⟨a,b⟩,c,d⟩:=u;obtain⟨⟨a',b'⟩,c',d'⟩:=v;have C:=Ql a b c d;have B:=Ql a' b' c' d';unfold ld;generalize gY ((a,b),(c,d))=S at*;generalize gY ((a',b'),(c',d'))=T at*;obtain⟨⟨N,J⟩,H,F⟩:=S;obtain⟨⟨M,I⟩,G,E⟩:=T;refine aq.ofW IP.1 IP.2 IP.3 IP.4 k rfl ?_;rw[aiK];refine cU (WF.sound ?_);simp only[go_sem,seval,bX];refine cU (WF.sound ?_);simp only[go_sem,seval,bX,bj,bg,aZ,bf,evc,j,D];refine cU (WF.sound ?_);simp only[go_sem,seval,bX,A,i,C,B];refine amB g f (a:=N) (b:=J) (c:=H) (d:=F) (a':=M) (b':=I) (c':=G) (d':=E) o.1 o.2 m.1 m.2 A (g2:=1) (g3:=1) ?_ ?_ ?_ ?_ ?_ ?_ ?_
 case refine_7=>exact fun e lc h=>⟨rfl,.inr rfl,h⟩
 all_goals simp only[abc,cY,dj,gw,ah,bQ,bS]
end
def lD:Sp
 | [u,v]=>(uR u).bind fun a=>(uR v).bind fun b=>bif bk a.1&&(bk a.2&&(bk b.1&&bk b.2)) then some (cd (ld a b)) else none
 |_=>none
def OQ{a b:bT}(h:bk a.1=true)(n2:bk a.2=true)(g:bk b.1=true)(f:bk b.2=true):lD [bX a,bX b]=some (cd (ld a b)):=by
 simp only[adz,lD,Hu,h,n2,g,f,cw]
def RC:dX:=[(311,rU),(312,Bm),(313,tW),(314,zf)]
def ab2:dR RC:=.cons O9 (.cons aay (.cons Y2 (.cons an0 .nil)))
def OS:db ae 225 lD:=by
 refine pC ab2 fun args u h=>?_;unfold lD at h;split at h;simp only[ak] at h;obtain⟨a,j,b,i,h⟩:=h;obtain⟨g,h⟩:=bh h;simp only[bu] at g;have h:=sI h;subst h;rw[Ai j,Ai i];exact⟨rfl,_,_,amE (sp:=fun f=>gL f RC) rfl rfl rfl rfl rfl g.1 g.2.1 g.2.2.1 g.2.2.2 (Nat.le_refl _),rfl,⟨1,rfl⟩⟩;cases h
