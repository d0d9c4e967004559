/- Lemmas for ValidShown. -/
import Derived.Test.YtnnppcoplinajaaGreatB8
import Derived.Test.YtnnppcoplinajaaGreatAg3
import Derived.Test.YtnnppcoplinajaaGreatB6
import Derived.Test.YtnnppcoplinajaaGreatB3
import Derived.Test.YtnnppcoplinajaaGreatZ1b
import Derived.Test.YtnnppcoplinajaaGreatB2
import Derived.Test.YtnnppcoplinajaaGreatB7
import Derived.Test.YtnnppcoplinajaaGreatB5
set_option linter.all false
open Bool renaming and_eq_true→bq,and_self→bX,false_and→dL,not_false→mZ,not_true→lD,or_eq_false_iff→zN,true_and→eC
open Int renaming mul_le_mul_of_nonneg_left→K4
open List renaming all_cons→kx,mem_cons→dG,range→hZ
open Nat renaming reduceAdd→bH,reduceBEq→ai
open Go.Op renaming binOp→ey,bytesLess→fh
open Go.Operand renaming const→dJ,tmp→aC
open Option renaming bind_eq_some_iff→ak
open Prod.mk renaming injEq→bC
open Go.ResultVar renaming tmp→bJ
open Go.Ag.aq renaming of2→lg
open Go.Proofs.Tryz renaming prog→ah
namespace Go.Proofs.YtnnppcoplinajaaGreat
open Go.Ag
def sa:List Nat:=[0,1,3,7,7,31,63,127,7,7,519,1799,3847,7943,16383,32767,65535,131071,131071,524287,1048575,2097151,131071,131071,8519679,29491199,63045631,130154495,268435455,536870911,1073741823,2147483647,4294967295,8589934591,17179869183,34359738367]
def tM:List Nat:=[0,0,2,7,15,31,31,127,255,31,31,1567,3615,7711,16383,32767]
def sb:List Nat:=[0,0,2,7,15,31,63,127,255,511,1023,2047,2047,8191,16383,32767,65535,131071,262143,524287,524287,2097151,4194303,8388607,16777215,33554431,67108863,134217727,134217727,536870911,1073741823,2147483647,4294967295,8589934591,17179869183,34359738367,68719476735,68719476735,274877906943,549755813887,1099511627775,2199023255551,4398046511103,8796093022207,17592186044415,35184372088831,35184372088831,140737488355327,281474976710655,562949953421311,1125899906842623,2251799813685247,4503599627370495,9007199254740991,9007199254740991,36028797018963967,72057594037927935,144115188075855871,288230376151711743,576460752303423487,9007199254740991,9007199254740991,3467771713075281919,8079457731502669823,17302829768357445631,35749573842066997247,72643061989486100479,147573952589676412927,295147905179352825855,590295810358705651711]
def sd:List Nat:=[0,0,0,6,14,30,62,126,255,511,1023,2047,2047,2047,2047,26623,59391,131071,262143,524287]
def tN:List Nat:=[0,1,3,3,15,3,63,127,255,511,1023,2047,4095,8191,16383]
abbrev arf:List ay:=[bR 29 9,vn 30 29 0,bR 31 30,jS 32 6 31,jS 33 9 31,Dm 34 35 32 33 31,fJ 35 31 34 0 31,gJ 36 9 35 31,jS 37 6 31,jS 38 9 31,⟨some 39,ey BinOp.sub 3 (aC 38) (dJ (Value.int IntKind.i64 1)) 3,(.when 31 true)⟩,Dm 40 35 37 39 31,fJ 41 31 40 0 31,gJ 42 9 41 31,aut 43 9 36 42 31,kZ 44 31 43,bR 45 44,jS 46 6 45,jS 47 9 45,Dm 48 35 46 47 45,fJ 49 31 48 1 45,gJ 50 3 49 45,jS 51 6 45,jS 52 9 45,⟨some 53,ey BinOp.sub 3 (aC 52) (dJ (Value.int IntKind.i64 1)) 3,(.when 45 true)⟩,Dm 54 35 51 53 45,fJ 55 31 54 1 45,gJ 56 3 55 45,auA 57 50 56 45,kZ 58 45 57,bR 59 58,fJ 60 29 3 4 59,gJ 61 25 60 59,abA 62 61 25 59,QK 63 62 0 59,kZ 64 59 63]
abbrev arh:List ay:=[bR 83 7,bR 84 8,zf 85 84 25,Dk 86 3 83 85,bR 87 86,fJ 88 29 3 4 87,gJ 89 25 88 87,abA 90 89 25 87,QO 91 90 2 87,kZ 92 87 91,bR 93 92,jC 94 6 93,jC 95 9 93,Dl 96 35 94 95 93,lV 97 31 96 1 93,iB 98 3 97 93,QP 99 98 1 93,lA 100 93 99,bR 101 100,jC 102 6 101,jC 103 9 101,Dl 104 35 102 103 101,lV 105 31 104 1 101,iB 106 3 105 101,J2 107 106 7 101,lA 108 101 107,bR 109 108,jC 110 6 109,jC 111 9 109,Dl 112 35 110 111 109,lV 113 31 112 2 109,iB 114 25 113 109,QJ 115 114 25 109,QP 116 115 1 109,lA 117 109 116,bR 118 117,jC 119 6 118,jC 120 9 118,Dl 121 35 119 120 118,lV 122 31 121 2 118,iB 123 25 122 118,QJ 124 123 25 118,J2 125 124 2 118,lA 126 118 125,bR 127 126,jC 128 6 127,jC 129 9 127,Dl 130 35 128 129 127,lV 131 31 130 2 127,iB 132 25 131 127,QJ 133 132 25 127,abF 134 133 2 127,jC 135 134 127,jS 136 6 135,jS 137 9 135,Dm 138 35 136 137 135,fJ 139 31 138 2 135,gJ 140 25 139 135,J5 141 25 140 0 135,gJ 142 9 141 135,jS 143 6 135,jS 144 9 135,Dm 145 35 143 144 135,fJ 146 31 145 2 135,gJ 147 25 146 135,J5 148 25 147 1 135,gJ 149 9 148 135,⟨some 150,ey BinOp.geq 9 (aC 142) (aC 149) 9,(.when 135 true)⟩,J3 151 135 150 127,lA 152 127 151]
abbrev ari:List ay:=[br 158 24 2,bR 159 6,bR 160 9,Bd 161 35 159 160,cj 162 31 161 2,br 163 25 162,F5 164 25 163 0,br 165 9 164,pg 166 32 158 165 24 9,J4 167 166 0,bR 168 167,iB 169 24 2 168,iB 170 29 3 168,jC 171 6 168,jC 172 9 168,Dl 173 35 171 172 168,iB 174 31 173 168,QQ 175 25 169 170 174 24 29 31 168,F6 176 175 168,lA 177 168 176]
def k6:=({y:=_}:bw Tryz.f6 [sa,tM,sb,sd,tN]).1
def PQ:=({y:=_}:cx k6 [1,1,1,1,1,1,0,1,0,0,1,0,0,1,0,0,0]).1
def PR:=({y:=_}:cx k6 [1,1,1,1,1,1,0,1,0,0]).1
def are:bt 6 Tryz.f6 k6 192 [bJ 4]:=.of
def ano:aj 6 2=1/\aj 6 3=1/\aj 6 19=0/\aj 6 22=0/\aj 6 25=0/\aj 6 62=0/\aj 6 67=0/\aj 6 85=0/\aj 6 90=0/\aj 6 115=0/\aj 6 124=0/\aj 6 133=0/\aj 6 155=0/\aj 6 157=0/\aj 6 187=0:=by and_intros<;>kernel_rfl
def OG:=({y:=_}:bw Tryz.f153 []).1
def OH:=({y:=_}:cx OG [1,0,1,0,0]).1
def aoR:bt 153 Tryz.f153 OG 19 [bJ 4]:=.of
def amj:aj 153 7=0:=by kernel_rfl
def Yg:=({y:=_}:bw Tryz.f154 []).1
def aoS:bt 154 Tryz.f154 Yg 8 [bJ 2]:=.of
def amk:aj 154 5=0/\aj 154 7=0:=by and_intros<;>kernel_rfl
def Yh:=({y:=_}:bw Tryz.f155 []).1
def aoT:bt 155 Tryz.f155 Yh 8 [bJ 4]:=.of
def aml:aj 155 3=0:=by kernel_rfl
def YF:=({y:=_}:bw Tryz.f257 []).1
def apZ:bt 257 Tryz.f257 YF 7 [bJ 3]:=.of
attribute[go_sem]ano amj amk aml k6 OG Yg Yh YF
end Go.Proofs.YtnnppcoplinajaaGreat
set_option linter.defProp false
namespace Go.Proofs.YtnnppcoplinajaaGreat
open Go.Ag
attribute[go_sem]Tu Tv Tw EW xG aP aQ ii uI Er
def sN:=(⟨@iQ, @cT.{1}, @cF.{1}⟩:_/\_/\_)
def sL:=(⟨sN, @fQ, @f7, @bS.{0}⟩:_/\_/\_/\_)
def sG:=(⟨sL, @uY⟩:_/\_)
def sA:=(⟨@List.length_append.{0}, @List.length_cons.{0}, @List.length_nil.{0}⟩:_/\_/\_)
abbrev Pt:=Int×Int
abbrev bK:=Pt×Pt
def fY(a b c:Pt):Int:=(b.1-a.1)*(c.2-a.2)-(b.2-a.2)*(c.1-a.1)
def dC(a b c:Pt):Int:=iW (fY a b c) 0
def gz(s:bK):bK:=bif aX 0 (fA s.1 s.2) then(s.2,s.1) else s
def so(s:bK)(p:Pt):Bool:=an (dC (gz s).1 (gz s).2 p) 0&&(b9 (fA (gz s).1 p) 0&&(b9 (fA p (gz s).2) 0&&(!hG (gz s).1 (gz s).2||hG p (gz s).1)))
def sh(s t:bK):Pt:=bif aX 0 (fA t.1 s.1) then t.1 else s.1
def rX(s t:bK):Pt:=bif aX (fA t.2 s.2) 0 then t.2 else s.2
def y9(s t:bK):Int:=bif hG s.1 s.2 then bif so t s.1 then bif hG s.1 t.1||hG s.1 t.2 then 1 else 2 else 0
 else bif an (fA (sh s t) (rX s t)) (-1) then 5 else bif an (fA (sh s t) (rX s t)) 0 then 1 else 0
def y8(s t:bK):Int:=bif hG t.1 t.2 then y9 t s else y9 s t
def Bo(s t:bK):Bool:=hG s.1 t.1&&hG s.2 t.2
def qD(s t:bK):Int:=
 bif aX 0 (dC s.1 s.2 t.1*dC s.1 s.2 t.2)||aX 0 (dC t.1 t.2 s.1*dC t.1 t.2 s.2) then 0
 else bif aX (dC s.1 s.2 t.1*dC s.1 s.2 t.2) 0&&aX (dC t.1 t.2 s.1*dC t.1 t.2 s.2) 0 then 3
 else bif an (dC s.1 s.2 t.1*dC s.1 s.2 t.2) 0&&an (dC t.1 t.2 s.1*dC t.1 t.2 s.2) 0 then 1 else 2
def qY(s t:bK):Bool:=hG s.1 s.2||hG t.1 t.2||(an (dC s.1 s.2 t.1) 0&&an (dC s.1 s.2 t.2) 0)
def qU(s t:bK):Int:=bif Bo s t then 4 else bif qY s t then y8 s t else qD s t
def jj(s t:bK):Int:=qU (gz s) (gz t)
def gr(a b:Pt):Prop:=a.1<b.1\/(a.1=b.1/\a.2<=b.2)
theorem Av(a b:Pt):(fA a b= -1/\gr a b/\a≠b)\/(fA a b=0/\a=b)\/(fA a b=1/\gr b a/\a≠b):=by
 grind [fA,uW,iW,aX,an,gr]
variable{a b:Pt}
theorem Gi:hG a b=true↔a=b:=by
 grind [hG,an]
def Z3(a b:Pt):gr a b\/gr b a:=by
 simp only[gr];omega
theorem Z2(h:gr a b)(k:gr b a):a=b:=by
 grind [gr]
def adI(s:bK):gr (gz s).1 (gz s).2:=by
 unfold gz;rcases Av s.1 s.2 with⟨h,k,_⟩|⟨h,k⟩|⟨h,k,_⟩<;>rw[h]
 exact k;show gr s.1 s.2;rw[k];simp[gr];exact k
theorem adH(s:bK):(gz s=s)\/(gz s=(s.2,s.1)):=by
 grind [gz]
theorem anU:b9 (fA a b) 0=true↔gr a b:=by
 grind [Av,b9,gr]
theorem B9(a:Int):(iW a 0= -1/\a<0)\/(iW a 0=0/\a=0)\/(iW a 0=1/\0<a):=by
 grind [iW,aX]
def boxes(s t:bK):Prop:=(min s.1.1 s.2.1<=max t.1.1 t.2.1/\min t.1.1 t.2.1<=max s.1.1 s.2.1)/\(min s.1.2 s.2.2<=max t.1.2 t.2.2/\min t.1.2 t.2.2<=max s.1.2 s.2.2)
variable{d:Int}
theorem uN{D p q c a b:Int}(z:0<D)(k:0<=p)(j:p<=D)(i:0<=q)(g:q<=D)(h:D*c+p*(d-c)=D*a+q*(b-a)):min c d<=max a b:=by
 by_cases hc:min c d<=max a b;exact hc;exfalso;have w:max a b+1<=c:=by omega
 have u:max a b+1<=d:=by omega
 have o:a<=max a b:=by omega
 have m:b<=max a b:=by omega
 generalize max a b=M at*;have E:=K4 w (show 0<=D-p by omega);have C:=K4 u k;have B:=K4 o (show 0<=D-q by omega);have A:=K4 m i
 grind
variable{p:Pt}
theorem Oe(o:gr a p)(m:gr p b)(h:fY a b p=0):(a.1<=p.1/\p.1<=b.1)/\(min a.2 b.2<=p.2/\p.2<=max a.2 b.2):=by
 have i:a.1<=p.1/\p.1<=b.1:=by
  simp only[gr] at*;omega
 refine⟨i,?_⟩;by_cases e:a.1=b.1;simp only[gr] at*;omega;have g:(b.1-a.1)*p.2+0*(p.2-p.2)=(b.1-a.1)*a.2+(p.1-a.1)*(b.2-a.2):=by
  simp only[fY] at h;grind
 have k:=uN (show 0<b.1-a.1 by omega) (Int.le_refl 0) (by omega) (by omega) (by omega) g;have j:=uN (show 0<b.1-a.1 by omega) (show 0<=p.1-a.1 by omega) (by omega) (Int.le_refl 0) (by omega) g.symm;omega
variable{c:Pt}
theorem V6{d:Pt}(k:a≠b)(B:fY a b c=0)(A:fY a b d=0):fY c d a=0/\fY c d b=0:=by
 obtain⟨g,h⟩:=a;obtain⟨i,w⟩:=b;obtain⟨u,q⟩:=c;obtain⟨o,m⟩:=d;simp only[fY,ne_eq,bC] at*;by_cases hx:i-g=0;have z:w-h≠0:=by omega
 grind [Int.mul_eq_zero]
 have j:(i-g)*((u-g)*(m-h)-(q-h)*(o-g))=0:=by grind
 grind [Int.mul_eq_zero]
theorem aiP{d:Pt}(O: ¬(fY a b c=0/\fY a b d=0))(C: ¬0<dC a b c*dC a b d)(B: ¬0<dC c d a*dC c d b):boxes (a,b) (c,d):=by
 obtain⟨h,g⟩:=a;obtain⟨o,m⟩:=b;obtain⟨j,i⟩:=c;obtain⟨u,q⟩:=d;have M:fY (h,g) (o,m) (u,q)-fY (h,g) (o,m) (j,i)=fY (j,i) (u,q) (h,g)-fY (j,i) (u,q) (o,m):=by
  simp only[fY];grind
 have G:(fY (h,g) (o,m) (u,q)-fY (h,g) (o,m) (j,i))*j+(-fY (h,g) (o,m) (j,i))*(u-j)=(fY (h,g) (o,m) (u,q)-fY (h,g) (o,m) (j,i))*h+fY (j,i) (u,q) (h,g)*(o-h):=by
  simp only[fY];grind
 have F:(fY (h,g) (o,m) (u,q)-fY (h,g) (o,m) (j,i))*i+(-fY (h,g) (o,m) (j,i))*(q-i)=(fY (h,g) (o,m) (u,q)-fY (h,g) (o,m) (j,i))*g+fY (j,i) (u,q) (h,g)*(m-g):=by
  simp only[fY];grind
 simp only[dC] at C B;generalize fY (h,g) (o,m) (j,i)=m1 at*;generalize fY (h,g) (o,m) (u,q)=m2 at*;generalize fY (j,i) (u,q) (h,g)=l1 at*;generalize fY (j,i) (u,q) (o,m)=l2 at*;have J:(m1<=0/\0<=m2)\/(m2<=0/\0<=m1):=by
  rcases B9 m1 with⟨e,k⟩|⟨e,k⟩|⟨e,k⟩<;>rcases B9 m2 with⟨w,z⟩|⟨w,z⟩|⟨w,z⟩<;>rw[e,w] at C<;>first|omega|(exfalso;exact C (by decide))
 have I:(l1<=0/\0<=l2)\/(l2<=0/\0<=l1):=by
  rcases B9 l1 with⟨e,k⟩|⟨e,k⟩|⟨e,k⟩<;>rcases B9 l2 with⟨w,z⟩|⟨w,z⟩|⟨w,z⟩<;>rw[e,w] at B<;>first|omega|(exfalso;exact B (by decide))
 have H:m2-m1≠0:=by omega
 rcases Int.lt_or_gt_of_ne H with N|A
 have E:(-(m2-m1))*j+m1*(u-j)=(-(m2-m1))*h+(-l1)*(o-h):=by grind
 have D:(-(m2-m1))*i+m1*(q-i)=(-(m2-m1))*g+(-l1)*(m-g):=by grind
 exact⟨⟨uN (by omega) (by omega) (by omega) (by omega) (by omega) E.symm,uN (by omega) (by omega) (by omega) (by omega) (by omega) E⟩,uN (by omega) (by omega) (by omega) (by omega) (by omega) D.symm,uN (by omega) (by omega) (by omega) (by omega) (by omega) D⟩;exact⟨⟨uN A (by omega) (by omega) (by omega) (by omega) G.symm,uN A (by omega) (by omega) (by omega) (by omega) G⟩,uN A (by omega) (by omega) (by omega) (by omega) F.symm,uN A (by omega) (by omega) (by omega) (by omega) F⟩
theorem J9:an (dC a b c) 0=true↔fY a b c=0:=by
 grind [dC,B9,an]
variable{s t:bK}
theorem Mu(h:boxes s t):boxes t s:=⟨h.1.symm,h.2.symm⟩
def Rh(h:(s.1.1<=p.1/\p.1<=s.2.1)/\(min s.1.2 s.2.2<=p.2/\p.2<=max s.1.2 s.2.2))(g:p=t.1):boxes s t:=by
 subst g;simp only[boxes];omega
def aue(g:gr s.1 s.2)(h:so s p=true):(s.1.1<=p.1/\p.1<=s.2.1)/\(min s.1.2 s.2.2<=p.2/\p.2<=max s.1.2 s.2.2):=by
 have e:gz s=s:=by
  unfold gz;rcases Av s.1 s.2 with⟨h,_⟩|⟨h,_⟩|⟨h,k,n⟩<;>rw[h]
  rfl;rfl;exact absurd (Z2 g k) n
 simp only[so,e,bq,J9,anU] at h;exact Oe h.2.1 h.2.2.1 h.1
def asB(D:gr s.1 s.2)(C:gr t.1 t.2)(h:gr (sh s t) (rX s t)):(gr s.1 t.1/\gr t.1 s.2)\/(gr t.1 s.1/\gr s.1 t.2):=by
 obtain⟨⟨B,A⟩,z,w⟩:=s;obtain⟨⟨u,q⟩,o,m⟩:=t;simp only[sh,rX] at h;rcases Av (u,q) (B,A) with⟨i,k,_⟩|⟨i,k⟩|⟨i,k,_⟩<;>rcases Av (o,m) (z,w) with⟨g,j,_⟩|⟨g,j⟩|⟨g,j,_⟩<;>rw[i,g] at h<;>
  simp only[aX,gr,bC] at* <;>simp at h<;>omega
theorem asQ(o:gr s.1 s.2)(g:gr t.1 t.2)(h:qU s t≠0):boxes s t:=by
 unfold qU at h;cases h1:Bo s t with
 |true=>
  grind [Bo,Gi,boxes]
 |false=>
  rw[h1] at h;simp only[cF] at h;have w: ∀ {s t:bK},gr s.1 s.2->gr t.1 t.2->hG s.1 s.2=true->y9 s t≠0->boxes s t:=by
   intro s t o g i h;unfold y9 at h;rw[i] at h;cases ho:so t s.1 with
   |false=>rw[ho] at h;exact absurd rfl h
   |true=>exact Mu (Rh (aue g ho) rfl)
  cases h2:qY s t with
  |true=>
   rw[h2] at h;simp only[cT,y8] at h;cases i:hG t.1 t.2 with
   |true=>
    grind [Mu]
   |false=>
    rw[i] at h;simp only[cF] at h;cases hd2:hG s.1 s.2 with
    |true=>exact w o g hd2 h
    |false=>
     unfold y9 at h;rw[hd2] at h;simp only[qY,i,hd2,Bool.false_or,bq,J9] at h2;have q:s.1≠s.2:=fun e=>by rw[Gi.2 e] at hd2;cases hd2
     have z:=V6 q h2.1 h2.2;have u:gr (sh s t) (rX s t):=by
      rcases Av (sh s t) (rX s t) with⟨e,k,_⟩|⟨e,k⟩|⟨e,k,_⟩
      exact k;rw[k];simp[gr];rw[e] at h;exact absurd rfl h
     rcases asB o g u with⟨m,j⟩|⟨m,j⟩
     exact Rh (Oe m j h2.1) rfl;exact Mu (Rh (Oe m j z.1) rfl)
  |false=>
   grind [qY,qD,aX,aiP,J9]
theorem asU(h:jj s t≠0):boxes s t:=by
 have g:=asQ (adI s) (adI t) h
 grind [adH,boxes]
theorem yg(h:gr a b)(n:a≠b):fA a b= -1/\fA b a=1:=by
 grind [Av,Z2]
theorem asA:sh s t=sh t s:=by
 unfold sh;by_cases h:s.1=t.1;rw[h];rcases Z3 s.1 t.1 with k|k
 rw[(yg k h).1,(yg k h).2];rfl;rw[(yg k (Ne.symm h)).1,(yg k (Ne.symm h)).2];rfl
theorem al2:rX s t=rX t s:=by
 unfold rX;by_cases h:s.2=t.2;rw[h];rcases Z3 s.2 t.2 with k|k
 rw[(yg k h).1,(yg k h).2];rfl;rw[(yg k (Ne.symm h)).1,(yg k (Ne.symm h)).2];rfl
theorem auf(h:s.1=s.2)(g:p≠s.1):so s p=false:=by
 grind [gz,Gi,so]
theorem aua(h:hG s.1 s.2=false)(g:hG t.1 t.2=false):qY s t=qY t s:=by
 grind [Gi,qY,J9,V6]
theorem asR(s t:bK):qU s t=qU t s:=by
 grind [qU,Bo,qY,y8,Gi,y9,auf,aua,asA,al2,qD]
theorem aaB(s t:bK):jj s t=jj t s:=asR _ _
theorem QE: ∀(l:List Obj) (last:ae),nG last l=true-> ∀q∈l,lZ q.uP=true
 | [],_,_,q,h=>by cases h
 |o::r,last,h,q,i=>by
  simp only[nG] at h;cases hb: !fR o||Ag.leBytes o.id last with
  |true=>rw[hb] at h;cases h
  |false=>
   rw[hb] at h;rcases dG.1 i with rfl|i
   have g:fR q=true:=by
    cases g:fR q with
    |true=>rfl
    |false=>rw[g] at hb;cases hb
   unfold fR at g;cases hh:od q with
   |true=>rw[hh] at g;cases g
   |false=>
    unfold od at hh;simp only[zN,Bool.not_eq_false'] at hh;exact hh.1.1.2
   exact QE r o.id h q i
def az8:SO.AL:=(Hm (v:=SO.val) (by kernel_rfl)).2
def A9(q:Option Obj):Obj:=q.getD SO
def not_le{a b:ae}(h:fh a b=true):Ag.leBytes b a=false:=by
 rw[P0] at h;simpa using h
def atT{q:Obj}:fR q=true↔od q=false/\pD q.Al [] [] q.gT=false/\(bif an q.Al 1 then(q.gT.length==0)&&qX q.x q.y else bif an q.Al 5 then(q.gT.length==3)&&DZ q else DZ q)=true:=by
 unfold fR;cases od q with
 |true=>simp
 |false=>cases pD q.Al [] [] q.gT<;>simp
def JP: ∀(l:List Obj) (last:ae),nG last l=true-> ∀q∈l,fR q=true
 | [],_,_,q,h=>by cases h
 |o::r,last,h,q,g=>by
  simp only[nG] at h;cases hb:(!fR o||Ag.leBytes o.id last) with
  |true=>rw[hb] at h;cases h
  |false=>
   rw[hb] at h;rcases dG.1 g with rfl|g
   simp only[zN,Bool.not_eq_false'] at hb;exact hb.1;exact JP r o.id h q g
def abe: ∀(l:List Obj) (last:ae),(∀q∈l,fR q=true)->(∀k∈l.map (·.id),fh last k=true)->(l.map (·.id)).Pairwise (fun a b=>fh a b=true)->nG last l=true
 | [],_,_,_,_=>rfl
 |o::r,last,h,h1,h2=>by
  rw[List.map_cons,List.pairwise_cons] at h2;have i:(!fR o||Ag.leBytes o.id last)=false:=by
   rw[h o (by simp),not_le (h1 o.id (by simp))];rfl
  simp only[nG,i,cF];exact abe r o.id (fun q g=>h q (by simp[g])) h2.1 h2.2
theorem ye: ∀(a b:ae),dn a b<0↔fh a b=true
 | [],[]=>by simp[dn,Go.Proofs.bytesLess_eq]
 | [],y::b=>by rw[Go.Proofs.bytesLess_eq,dE];simp[dn]
 |x::a,[]=>by rw[Go.Proofs.bytesLess_eq,dE];simp[dn]
 |x::a,y::b=>by
  have g:=ye a b
  grind [Go.Proofs.bytesLess_eq,List.cons_lt_cons_iff,UInt8.lt_iff_toNat_lt,UInt8.toNat_inj,dn,ol]
theorem Z8{a b:ae}(h:fh a b=true):fh b a=false:=by
 grind [Go.Proofs.bytesLess_eq]
theorem aik(a b:ae):gR b a= -gR a b:=by
 grind [gR,Z8]
theorem aim{a b:ae}(h:gR a b=0):a=b:=by
 grind [gR,Go.Proofs.bytesLess_eq]
theorem anT(a:Int):an (-a) 0=an a 0:=by
 grind [rZ]
theorem HC: ∀a b:List ae,fX b a= -fX a b
 | [],[]=>rfl
 | [],_::_=>rfl
 |_::_,[]=>rfl
 |a::x,b::y=>by
  simp only[fX,aik a b,anT,HC x y];cases an (gR a b) 0<;>rfl
theorem MU: ∀ {a b:List ae},fX a b=0->a=b
 | [],[],_=>rfl
 | [],_::_,h=>by simp[fX] at h
 |_::_,[],h=>by simp[fX] at h
 |a::x,b::y,h=>by
  simp only[fX] at h;by_cases hz:gR a b=0;rw[hz] at h;rw[aim hz,MU (a:=x) (b:=y) (by simpa[an] using h)]
  grind [rZ]
def gI(k:ae):List fO->Option ae
 | []=>none
 |t::l=>bif t.1==k then some t.2 else gI k l
theorem arS{a b:ae}(g:fh a b=false)(i:a≠b):fh b a=true:=by
 rw[Go.Proofs.bytesLess_eq] at g ⊢;have g:=of_decide_eq_false g;exact dQ (Classical.byContradiction fun h=>i (List.le_antisymm (List.not_lt.1 h) (List.not_lt.1 g)))
def C3(a b:ae):ae:=bif Ag.leBytes a b then a else b
def CZ(a b:ae):ae:=bif fh a b then b else a
def du(a b:ae):ae×ae:=(C3 a b,CZ a b)
def mH(m:List Obj)(r:ae):Int:=match ck r m with|some q=>q.Al|none=>0
def di(m:List Obj)(r:ae):Bool:=an (mH m r) 1
def ep(m:List Obj)(r:ae):Pt:=match ck r m with|some q=>(q.x,q.y)|none=>(0,0)
def kL(o:Obj):List (ae×ae):=(o.gT.zip (o.gT.tail++(bif an o.Al 3 then o.gT.take 1 else []))).map fun p=>du p.1 p.2
def se(m:List Obj)(o:Obj):Bool:=(an o.Al 2||an o.Al 3)&&o.gT.all (di m)
def fB(m:List Obj)(o:Obj):List (ae×ae):=bif se m o then kL o else []
def kp(m:List Obj)(k:ae×ae):bK:=(ep m k.1,ep m k.2)
def nL{α:Type}:List α->List (α×α)
 | []=>[]
 |a::l=>l.map (fun b=>(a,b))++nL l
def fI(p:ae×ae):List ae:=bif p.1==p.2 then [p.1] else [p.1,p.2]
def bg(p:Pt):Bool:= !aX 2097152 (max p.1 p.2)&& !aX (min p.1 p.2) (-2097152)
def ph(r:List Pt):Bool:=decide (3<=r.length)&&(decide (r.length<=2000)&&r.all bg)
def fK(r:List Pt):List bK:=r.zip (r.tail++r.take 1)
def eE(r:List Pt)(i:Nat):bK:=((r[i]?).getD (0,0),(r[(i+1) % r.length]?).getD (0,0))
def nI(r:List Pt)(i k:Nat):Bool:=bif(i-k==1||i-k==r.length-1) then an (jj (eE r i) (eE r k)) 1 else an (jj (eE r i) (eE r k)) 0
def jT(r:List Pt):Bool:=ph r&&((hZ r.length).all fun i=>(hZ i).all fun k=>nI r i k)
def vI(a b c:Pt):Int:=(b.1-a.1)*(c.2-b.2)-(b.2-a.2)*(c.1-b.1)
def rM(a n b:Int):Bool:=decide (min a b<=n)&&decide (n<=max a b)
def Bc(s:bK)(p:Pt):Bool:=an (vI s.1 s.2 p) 0&&(rM s.1.1 p.1 s.2.1&&rM s.1.2 p.2 s.2.2)
def vN(s:bK)(p:Pt):Int:=bif b9 s.1.2 p.2&&(aX p.2 s.2.2&&aX 0 (vI s.1 s.2 p)) then 1 else bif aX p.2 s.1.2&&(b9 s.2.2 p.2&&aX (vI s.1 s.2 p) 0) then-1 else 0
def yP(p:Pt):List bK->Int->Int
 | [],w=>bif an w 0 then-1 else 1
 |s::l,w=>bif Bc s p then 0 else yP p l (w+vN s p)
def qO(r:List Pt)(p:Pt):Int:=yP p (fK r) 0
def sF(r:List Pt)(p:Pt):Int:=bif jT r&&bg p then qO r p else-1
def oP(r:List Pt):List Pt:=r.map fun p=>(2*p.1,2*p.2)
def Aw(r s:List Pt)(v:Int):Nat:=((fK r).filter fun x=>an (qO (oP s) (x.1.1+x.2.1,x.1.2+x.2.2)) v).length
def oz(a b:bK):Bool:=an (jj a b) 2||(an (jj a b) 3||an (jj a b) 5)
def pT(r s:List Pt):Int:=
 bif !(jT r&&jT s) then 0 else
 bif(fK r).any (fun a=>(fK s).any fun b=>oz a b) then 0 else
 bif(decide (0<Aw r s 1)&&decide (0<Aw r s (-1)))||(decide (0<Aw s r 1)&&decide (0<Aw s r (-1))) then 0 else
 bif decide (0<Aw r s 1) then 2 else
 bif decide (0<Aw s r 1) then 3 else
 bif decide (0<Aw r s (-1)) then 1 else 4
def t8(m:List Obj)(o:Obj):Option (List Pt):=bif an o.Al 3&&o.gT.all (di m) then some (o.gT.map (ep m)) else none
def pR(m:List Obj)(o:Obj):Option (List Pt):=(t8 m o).bind fun r=>bif jT r then some r else none
def kK(m:List Obj)(id:ae):Option (List Pt):=(ck id m).bind (pR m)
def je(m:List Obj)(r:ae):Option (List ae):=(ck r m).bind fun q=>bif an q.Al 2&&q.gT.all (di m) then some q.gT else none
def pZ(m:List Obj)(o:Obj):Bool:=((hZ o.gT.length).zip o.gT).all fun p=>bif an o.Al 5&&p.1==1 then di m p.2 else(je m p.2).isSome
def Az(l:List ae):ae×ae:=(l.headD [],l.getLastD [])
def Bv(g:ae×ae×Bool×Bool)(e:ae×ae):ae×ae×Bool×Bool:=
 (e.1,e.2,((g.2.2.1&&g.1==e.2)||(g.2.2.2&&g.2.1==e.2)),((g.2.2.1&&g.1==e.1)||(g.2.2.2&&g.2.1==e.1)))
def yi(m:List Obj)(o:Obj):Bool:=match o.gT.map fun r=>Az ((je m r).getD []) with
 | []=>true
 |e::l=>(l.foldl Bv (e.1,e.2,true,true)).2.2.1||(l.foldl Bv (e.1,e.2,true,true)).2.2.2
def zG(m:List Obj)(o:Obj):Bool:=((je m (o.gT.getD 0 [])).getD []).contains (o.gT.getD 1 [])&&((je m (o.gT.getD 2 [])).getD []).contains (o.gT.getD 1 [])
def kr(k:Int)(i:Nat):Int:=bif an k 4||(an k 5&& !(i==1)) then 2 else 1
def Gn(m:List Obj)(o:Obj):Bool:=((hZ o.gT.length).zip o.gT).all fun p=>an (mH m p.2) (kr o.Al p.1)
structure aB where
 strict:Bool
 area:ae
 Al:Int
 ifK:ae
 ifV:ae
 op:Int
 key:ae
 valuesV:aa
 values:List ae
def tI(s:ae):Bool:= !(s== [])&&decide (s.length<=200)
def t9(x:aB):Bool:=
 bif !(x.area== [])&& !jA x.area then false else bif aX x.Al 0 then false else bif aX 5 x.Al then false else bif !jA x.key then false else
 bif !((x.ifK== [])&&(x.ifV== []))&& !(jA x.ifK&&tI x.ifV) then false else
 bif !(an x.op 2)&&(!(an x.op 1)&& !(an x.op 3)) then false else bif !(an x.op 2==decide (0<x.values.length)) then false else bif decide (60<x.values.length) then false else
 x.values.all tI
def ou(l:List aB):Bool:=decide (l.length<=200)&&l.all t9
def ve(x:aB)(o:Obj):Bool:=bif an x.op 3 then(gI x.key o.uP).isNone else bif an x.op 2 then(match gI x.key o.uP with|some v=>x.values.contains v|none=>true) else(gI x.key o.uP).isSome
def MZ(x:aB)(o:Obj):Bool:=(an x.Al 0||an x.Al o.Al)&&((x.ifK== [])||gI x.ifK o.uP==some x.ifV)
def zz:ae:=[118,105,101,119]
def aes(o:Obj):Option ae:=(gI zz o.uP).bind fun s=>bif jA s then some s else none
def yH(name:ae)(o:Obj):Bool:=match aes o with|some s=>s==name|none=>true
def fN(m:List Obj)(name:ae):List Obj:=m.filter (yH name)
def mr:List ae->List ae->Bool
 | [],[]=>false
 | [],_::_=>true
 |_::_,[]=>false
 |a::x,b::y=>bif a==b then mr x y else fh a b
def Cz(a b:List ae):Bool:= !mr a b&& !mr b a
def aiy(a b:Int×Int):Int:=bif aX a.1 b.1||(an a.1 b.1&&aX a.2 b.2) then-1 else bif hG a b then 0 else 1
def qa{f:Nat}{T:df}(B:dl T){sp:Sp}(h: ∀args u,sp args=some u->pures args=true/\ ∃v s',aq (QT T) f args s0 v s'/\s'.ci=0/\fU s'.heap v u):cL ah f sp:=by
 intro args x m G q w i j k;obtain⟨g,v,s',o,A,z⟩:=h args x m;exact mT (Q:=QT T) (mE B) (fun _=>Nat.zero_lt_succ 1) (args:=args) (v:=v) (s':=s') (vH g) (by rw[kw g];exact o) A z G q w i j k
variable{s:St}
def cI.isL{sz lo:Nat}{ov:aa}{α:Type}{enc:α->aa}{l:List α}(h:cI sz lo s ov (l.map enc)):au sz enc ov l:=by
 rcases h with⟨i,g⟩|⟨_,k,g,_⟩
 exact .inl ⟨i,List.map_eq_nil_iff.1 g⟩;exact .inr ⟨_,g⟩
def x6(u:aa):Option (List ae):=bif bG u then dW 1 gG u else none
variable{l:List ae}{v:aa}
def Hq(h:au 1 ax v l)(g:bG v=true):x6 v=some l:=by
 simp only[x6,g,cT,kT kF h]
def Hp{u:aa}(h:x6 u=some l):au 1 ax u l/\bG u=true:=by
 unfold x6 at h;obtain⟨g,h⟩:=bc h;exact⟨ig (fun v a=>kQ) h,g⟩
def agy(u:aa):Option (List fO):=bif bG u then dW 2 uH u else none
variable{n:Nat}
def da(h:n<4611686018427387904):IntKind.i64.wrap ((n:Int)+1)=((n+1:Nat):Int):=by rw[jf (by omega) (by omega)];omega
class Std (Q:aF):Prop where
 P:Q.P=ah
 hint:Q.hint=aj
 H: ∀f,Q.specH f=none
class No (Q:aF) (f:FuncId):Prop where
 s:Q.spec f=none
 w:Q.specW f=none
attribute[go_sem]Std.P Std.hint No.s
variable{fn:Func}{f:FuncId}{args:List aa}{sc:SC}{s':St}{t:Tmp}{Q:aF}
def aq.ofN[Std Q][No Q f](o:ah.funcs[f]? =some fn)(q:fn.body.map dY=some sc)(m:fn.ntmps=n)(k:fn.results.toList=[.tmp t])(h:W Q f sc (fP n args) s fun x g i=>i=s'/\(x= .normal\/x= .ret)/\ac g.env t=v)(j:v.ge=true:=by rfl):aq Q f args s v s':=
 lg (by rw[Std.P];exact o) q m k No.s (h.mono fun _ _ _ ⟨A,z,u⟩=>⟨A,z,dD u j⟩) (Std.H f) No.w
variable{rs:List ResultVar}{R:aa->St->Prop}
def aq.ofNR[Std Q][No Q f](z:ah.funcs[f]? =some fn)(A:fn.body.map dY=some sc)(u:fn.ntmps=n)(o:fn.results.toList=rs)(h:W Q f sc (fP n args) s fun x g i=>(x= .normal\/x= .ret)/\ ∃v,(iE Q [] g i rs).map nK=some v/\R v i): ∃v s',aq Q f args s v s'/\R v s':=by
 obtain⟨x,g,i,j,k,v,m,q⟩:=h;exact⟨v,i,lg (by rw[Std.P];exact z) A u o No.s ⟨x,g,i,j,rfl,k,by simpa only[Option.map_eq_some_iff] using m⟩ (Std.H f) No.w,q⟩
def aq.ofNRZ[Std Q][No Q f](F:bt f fn sc n rs)(h:W Q f sc (fP n args) s fun x g i=>(x= .normal\/x= .ret)/\ ∃v,(iE Q [] g i rs).map nK=some v/\R v i): ∃v s',aq Q f args s v s'/\R v s':=aq.ofNR F.1 F.2 F.3 F.4 h
def aq.ofNZ[Std Q][No Q f](F:bt f fn sc n [.tmp t])(h:W Q f sc (fP n args) s fun x g i=>i=s'/\(x= .normal\/x= .ret)/\ac g.env t=v)(j:v.ge=true:=by rfl):aq Q f args s v s':=aq.ofN F.1 F.2 F.3 F.4 h j
def Obj.AL.all{o:Obj}(h:o.AL):(o.refsV.ge=true/\o.tagsV.ge=true)/\o.refsV.cells=[o.refsV]/\o.tagsV.cells=[o.tagsV]:=⟨⟨h.gT.ge,h.uP.ge⟩,h.gT.scal,h.uP.scal⟩
def Vl:aa->Option (List aa)->Option (FuncId×List aa)
 | .func (.func f) first captured,args=>args.bind fun args=>some (f,first++(args++captured))
 |_,_=>none
def ahp(e:aw)(t:Nat)(xs:Array Operand)(g:Array TypeId):callee e ⟨.value (.tmp t),xs,g⟩=Vl (ac e t) (evcs e xs.toList):=by
 simp only[callee,dA,Option.bind_some];cases ac e t with
 |func fn a b=>cases fn<;>rfl
 |_=>rfl
def aho(f:FuncId)(a b args:List aa):Vl (.func (.func f) a b) (some args)=some (f,a++(args++b)):=rfl
def rP(P:Program)(mk:aH)(g:List TypeId)(i:Bool)(x y:Int)(s:St):jg P mk .max g i [ag x,ag y] s=some (ag (max x y),s):=by
 have:(bif aX x y then y else x)=max x y:=by
  unfold aX;by_cases h:x<y;simp[h];omega;simp[h];omega
 simp[jg,tU,this]
def rN(P:Program)(mk:aH)(g:List TypeId)(i:Bool)(x y:Int)(s:St):jg P mk .min g i [ag x,ag y] s=some (ag (min x y),s):=by
 have:(bif aX y x then y else x)=min x y:=by
  unfold aX;by_cases h:y<x;simp[h];omega;simp[h];omega
 simp[jg,tU,this]
def Eo(P:Program)(mk:aH)(g:List TypeId)(h:Bool)(x y:ae)(s:St):jg P mk .max g h [.str x,.str y] s=some (.str (CZ x y),s):=rfl
def En(P:Program)(mk:aH)(g:List TypeId)(h:Bool)(x y:ae)(s:St):jg P mk .min g h [.str x,.str y] s=some (.str (C3 x y),s):=rfl
def oq(a b c d:Int):dz ah .eql 49 (.agg [ag a,ag b]) (.agg [ag c,ag d])=some (.bool (hG (a,b) (c,d))):=Ri a b c d
def acA(a b c d:Int):dz ah .neq 49 (.agg [ag a,ag b]) (.agg [ag c,ag d])=some (.bool (!hG (a,b) (c,d))):=by
 have h:=oq a b c d;rw[LY] at h;rw[age];generalize wA ah 49 (.agg [ag a,ag b]) (.agg [ag c,ag d])=x at*;generalize hG (a,b) (c,d)=y at*;cases x with
 |none=>cases h
 |some x=>
  injection h with h;injection h with h
  subst h;rfl
def DB(a b c d e f g h:Int):dz ah .eql 285 (.agg [ag a,ag b,ag c,ag d]) (.agg [ag e,ag f,ag g,ag h])=some (.bool (Bo ((a,b),(c,d)) ((e,f),(g,h)))):=by
 have k:wA ah 285 (.agg [ag a,ag b,ag c,ag d]) (.agg [ag e,ag f,ag g,ag h])=
  ((some (an a e)).bind fun r=>bif r then(some (an b f)).bind fun r=>bif r then some true else some false else some false).bind fun r=>bif r then((some (an c g)).bind fun r=>bif r then(some (an d h)).bind fun r=>bif r then some true else some false else some false).bind fun r=>bif r then some true else some false else some false:=by kernel_rfl
 rw[LY,k];simp only[Bo,hG];cases an a e<;>cases an b f<;>cases an c g<;>cases an d h<;>rfl
def bO(s:bK):aa:=.agg [ag s.1.1,ag s.1.2,ag s.2.1,ag s.2.2]
def uG:aa->Option bK
 | .agg [.int .i64 a,.int .i64 b,.int .i64 c,.int .i64 d]=>some ((a,b),(c,d))
 |_=>none
def An{p:bK}(h:uG v=some p):v=bO p:=by
 unfold uG at h;split at h;injection h with h;subst h;rfl
 cases h
def Hn(s:bK):uG (bO s)=some s:=rfl
def aw1(s:bK):bG (bO s)=true:=rfl
def JI(h:bg p=true):(-2097152<=p.1/\p.1<=2097152)/\(-2097152<=p.2/\p.2<=2097152):=by
 simp only[bg,aX,bq,Bool.not_eq_true',decide_eq_false_iff_not] at h;omega
def aq.ofW(q:Q.P.funcs[f]? =some fn)(u:fn.body.map dY=some sc)(o:fn.ntmps=n)(m:fn.results.toList=[.tmp t])(g:Q.spec f=none)(k:v.ge=true)(h:W Q f sc (fP n args) s fun x i j=>j=s'/\(x= .normal\/x= .ret)/\ac i.env t=v)(z:Q.specH f=none:=by rfl)(w:Q.specW f=none:=by rfl):aq Q f args s v s':=
 lg q u o m g (h.mono fun _ _ _ ⟨C,B,A⟩=>⟨C,B,dD A k⟩) z w
variable{K:Ex->Fr->St->Prop}{l:List Pt}
section
variable{sp:gQ}
def atn(C:au 2 aN v l)(F:l.length<=1000000)(E: ∀e lc,l.all bg=true->K (.exit 0) ⟨e,26,lc⟩ s)(B: ∀e lc,l.all bg=false->ac e 2= .bool false->K .ret ⟨e,26,lc⟩ s):
 ∀(r g:List Pt) (e:aw) (lc:Ag.Loc),l=g++r->l.all bg=r.all bg->ac e 5=v->ac e 6=aI l.length->ac e 7=aI g.length->W (QS sp) 311 (.loop Fp) ⟨e,26,lc⟩ s K:=by
 have q:=C.ge;intro r
 induction r with
 |nil=>
  intro g e lc o i m k j;have z:l.length=g.length:=by rw[o];simp
  refine W.loopF ?_;simp only[go_sem,seval,Fp,m,k,j,q,z,Nat.lt_irrefl];exact E _ _ i
 |cons p r D=>
  intro g e lc o i m k j;have h:g.length<l.length:=by rw[o];simp
  have A:l[g.length]? =some p:=by rw[o];simp
  have u:=fun lc=>C.at mR.2.2.1 A lc .i64;have w:=da (n:=g.length) (by omega);rw[kx] at i;refine W.loopF ?_;cases e1:aX 2097152 (max p.1 p.2) with
  |true=>
   simp only[go_sem,seval,Fp,m,k,j,q,u,h,aN,rP,rN,e1];exact B _ _ (by rw[i];simp only[bg,e1,lD,dL]) (by simp only[sG,seval, *])
  |false=>
   cases e2:aX (min p.1 p.2) (-2097152) with
   |true=>
    simp only[go_sem,seval,Fp,m,k,j,q,u,h,aN,rP,rN,e1,e2];exact B _ _ (by rw[i];simp only[bg,e1,e2,lD,Bool.and_false,dL]) (by simp only[sG,seval, *])
   |false=>
    simp only[go_sem,seval,Fp,m,k,j,q,u,h,aN,rP,rN,e1,e2,w];exact D (g++[p]) _ _ (by rw[o];simp) (by rw[i];simp only[bg,e1,e2,mZ,bX,eC]) (by simp only[sG,seval, *]) (by simp only[sG,seval, *]) (by simp only[sN,seval,sA])
def ato(g:sp 311=none)(i:au 2 aN v l)(m:l.length<=1000000)(s:St):aq (QS sp) 311 [v] s (.bool (l.all bg)) s:=by
 have q:=i.ge;have j:=fun k s=>i.lenS mR k s;refine aq.of3 IT.1 IT.2 IT.3 IT.4 g rfl ?_;simp only[go_sem,seval,q,j];refine atn i m ?_ ?_ l [] _ _ rfl rfl (by simp only[sG,seval, *]) (by simp only[sG,seval, *]) (by simp only[sN,seval];rfl);intro e lc h;simp only[go_sem,seval,h];intro e lc h o;simp only[go_sem,seval,o,h]
end
def sl:Sp
 | [u]=>bif bG u then(dW 2 jv u).bind fun l=>bif Nat.ble l.length 1000000 then some (.bool (l.all bg)) else none else none
 |_=>none
def aaT(g:l.length<=1000000):sl [.list 2 (l.map aN) .GT]=some (.bool (l.all bg)):=by
 have h:bG (.list 2 (l.map aN) .GT)=true:=by simp[bG,vq Ga]
 simp only[dX,sl,h,kT wd (.inr ⟨.GT,rfl⟩:au 2 aN (.list 2 (l.map aN) .GT) l),Nat.ble_eq_true_of_le g]
def aaR(j:bg a=true)(i:bg b=true)(g:bg c=true):sl [.list 2 [.agg [ag a.1,ag a.2],.agg [ag b.1,ag b.2],.agg [ag c.1,ag c.2]] .GT]=some (.bool true):=by
 have h:=aaT (l:=[a,b,c]) (by simp);simp only[kx,List.all_nil,j,i,g,bX] at h;exact h
def atk{d:Pt}(k:bg a=true)(j:bg b=true)(i:bg c=true)(g:bg d=true):sl [.list 2 [.agg [ag a.1,ag a.2],.agg [ag b.1,ag b.2],.agg [ag c.1,ag c.2],.agg [ag d.1,ag d.2]] .GT]=some (.bool true):=by
 have h:=aaT (l:=[a,b,c,d]) (by simp);simp only[kx,List.all_nil,k,j,i,g,bX] at h;exact h
def Qw:cL ah 311 sl:=by
 refine qa dl.nil fun args u h=>?_;unfold sl at h;split at h;obtain⟨g,h⟩:=bc h;simp only[ak] at h;obtain⟨l,j,h⟩:=h;obtain⟨i,h⟩:=bc h;have h:=sI h;subst h;exact⟨by simp only[pures,g,bX],_,_,ato (sp:=fun f=>gg f []) rfl (ig (fun v a=>lM) j) (Nat.le_of_ble_eq_true i) _,rfl,⟨1,rfl⟩⟩;cases h
variable{x y:Int}
def DR(h: -4194304<=x/\x<=4194304)(g: -4194304<=y/\y<=4194304):IntKind.i64.wrap (x-y)=x-y:=jf (by omega) (by omega)
def C7(h: -8388608<=x/\x<=8388608)(g: -8388608<=y/\y<=8388608): -70368744177664<=x*y/\x*y<=70368744177664:=by
 have i:(x*y).natAbs<=8388608*8388608:=by
  rw[Int.natAbs_mul];exact Nat.mul_le_mul (by omega) (by omega)
 omega
def FQ(h: -8388608<=x/\x<=8388608)(g: -8388608<=y/\y<=8388608):IntKind.i64.wrap (x*y)=x*y:=by
 have:=C7 h g;exact jf (by omega) (by omega)
def vL(p:Pt):Bool:=decide (-4194304<=p.1)&&decide (p.1<=4194304)&&decide (-4194304<=p.2)&&decide (p.2<=4194304)
def aep(h:vL p=true):(-4194304<=p.1/\p.1<=4194304)/\(-4194304<=p.2/\p.2<=4194304):=by
 simp only[vL,bq,dE] at h;omega
section
variable{sp:gQ}
def ayz(g:sp 420=none)(k:bg a=true)(j:bg b=true)(s:St):aq (QS sp) 420 [aN a,aN b] s (aN (b.1-a.1,b.2-a.2)) s:=by
 have o:=JI k;have m:=JI j;have i:=DR (x:=b.1) (y:=a.1) (by omega) (by omega);have h:=DR (x:=b.2) (y:=a.2) (by omega) (by omega);refine aq.of4 Jc.1 Jc.2 Jc.3 Jc.4 g ?_;simp only[go_sem,seval,aN,i,h,bf,aZ,aW,aY,evc]
def aiQ(g:sp 421=none)(m:vL a=true)(k:vL b=true)(s:St):aq (QS sp) 421 [aN a,aN b] s (bF (a.1*b.2-a.2*b.1)) s:=by
 have w:=aep m;have u:=aep k;have q:=C7 (x:=a.1) (y:=b.2) (by omega) (by omega);have o:=C7 (x:=a.2) (y:=b.1) (by omega) (by omega);have j:=FQ (x:=a.1) (y:=b.2) (by omega) (by omega);have i:=FQ (x:=a.2) (y:=b.1) (by omega) (by omega);have h:IntKind.i64.wrap (a.1*b.2-a.2*b.1)=a.1*b.2-a.2*b.1:=jf (by omega) (by omega);refine aq.of3 Jd.1 Jd.2 Jd.3 Jd.4 g rfl ?_;simp only[go_sem,seval,aN,bF,qy,j,i,h]
end
def DT:Sp
 | [u,v]=>(jv u).bind fun a=>(jv v).bind fun b=>bif bg a&&bg b then some (aN (b.1-a.1,b.2-a.2)) else none
 |_=>none
def aee(h:bg a=true)(g:bg b=true):DT [aN a,aN b]=some (aN (b.1-a.1,b.2-a.2)):=by
 simp only[dX,DT,wd,h,g,bX]
def ayy:cL ah 420 DT:=by
 refine qa dl.nil fun args u h=>?_;unfold DT at h;split at h;simp only[ak] at h;obtain⟨a,j,b,i,h⟩:=h;obtain⟨g,h⟩:=bc h;simp only[bq] at g;have h:=sI h;subst h;rw[lM j,lM i];exact⟨rfl,_,_,ayz (sp:=fun f=>gg f []) rfl g.1 g.2 _,rfl,⟨2,rfl⟩⟩;cases h
def Cb:Sp
 | [u,v]=>(jv u).bind fun a=>(jv v).bind fun b=>bif vL a&&vL b then some (bF (a.1*b.2-a.2*b.1)) else none
 |_=>none
def aiN(h:vL a=true)(g:vL b=true):Cb [aN a,aN b]=some (bF (a.1*b.2-a.2*b.1)):=by
 simp only[dX,Cb,wd,h,g,bX]
def aiO:cL ah 421 Cb:=by
 refine qa dl.nil fun args u h=>?_;unfold Cb at h;split at h;simp only[ak] at h;obtain⟨a,j,b,i,h⟩:=h;obtain⟨g,h⟩:=bc h;simp only[bq] at g;have h:=sI h;subst h;rw[lM j,lM i];exact⟨rfl,_,_,aiQ (sp:=fun f=>gg f []) rfl g.1 g.2 _,rfl,⟨1,rfl⟩⟩;cases h
def aeq(h:bg a=true)(g:bg b=true):vL (b.1-a.1,b.2-a.2)=true:=by
 have j:=JI h;have i:=JI g;simp only[vL,bq,dE];omega
section
variable{sp:gQ}
def avh(j:sp 313=none)(k:sp 311=some sl)(i:sp 420=some DT)(h:sp 421=some Cb)(m:sp 232=some oN)(g:bg a=true)(q:bg b=true)(o:bg c=true)(s:St):aq (QS sp) 313 [aN a,aN b,aN c] s (bF (dC a b c)) s:=by
 have B:=aaR g q o;have A:=aee g q;have z:=aee g o;have w:=aiN (aeq g q) (aeq g o);have u:oN [bF ((b.1-a.1)*(c.2-a.2)-(b.2-a.2)*(c.1-a.1)),ag 0]=some (bF (dC a b c)):=rfl;simp only[aN,bF] at B A z w u;refine aq.of3 IV.1 IV.2 IV.3 IV.4 j rfl ?_;simp only[go_sem,seval,aN,bF,bf,aZ,aW,aY,evc,ahp,aho,nC,k,i,h,m,B,A,z,w,u]
def axL(h:sp 312=none)(g:sp 379=some sC)(t:bK)(s:St):aq (QS sp) 312 [bO t] s (bO (gz t)) s:=by
 obtain⟨⟨a,b⟩,c,d⟩:=t;have i:sC [.agg [ag a,ag b],.agg [ag c,ag d]]=some (ag (fA (a,b) (c,d))):=rfl;refine aq.of4 IU.1 IU.2 IU.3 IU.4 h ?_;unfold gz;cases e1:aX 0 (fA (a,b) (c,d)) with
 |true=>simp only[go_sem,seval,bO,g,i,e1]
 |false=>simp only[go_sem,seval,bO,g,i,e1]
end
def t0:Sp
 | [u,v,w]=>(jv u).bind fun a=>(jv v).bind fun b=>(jv w).bind fun c=>bif bg a&&(bg b&&bg c) then some (bF (dC a b c)) else none
 |_=>none
def avg(i:bg a=true)(h:bg b=true)(g:bg c=true):t0 [aN a,aN b,aN c]=some (bF (dC a b c)):=by
 simp only[dX,t0,wd,i,h,g,bX]
def TK:df:=[(311,sl),(420,DT),(421,Cb),(232,oN)]
def afn:dl TK:=.cons Qw (.cons ayy (.cons aiO (.cons Hy .nil)))
def abR:cL ah 313 t0:=by
 refine qa afn fun args u h=>?_;unfold t0 at h;split at h;simp only[ak] at h;obtain⟨a,k,b,j,c,i,h⟩:=h;obtain⟨g,h⟩:=bc h;simp only[bq] at g;have h:=sI h;subst h;rw[lM k,lM j,lM i];exact⟨rfl,_,_,avh (sp:=fun f=>gg f TK) rfl rfl rfl rfl rfl g.1 g.2.1 g.2.2 _,rfl,⟨1,rfl⟩⟩;cases h
def Bu:Sp
 | [u]=>(uG u).bind fun t=>some (bO (gz t))
 |_=>none
def TL:df:=[(379,sC)]
def afo:dl TL:=.cons Rg .nil
def adJ:cL ah 312 Bu:=by
 refine qa afo fun args u h=>?_;unfold Bu at h;split at h;simp only[ak] at h;obtain⟨t,g,h⟩:=h;have h:=sI h;subst h;rw[An g];exact⟨rfl,_,_,axL (sp:=fun f=>gg f TL) rfl rfl t _,rfl,⟨2,rfl⟩⟩;cases h
def Be{a b c e f:Int}(i:bg (a,b)=true)(h:bg (c,d)=true)(g:bg (e,f)=true):t0 [.agg [ag a,ag b],.agg [ag c,ag d],.agg [ag e,ag f]]=some (ag (dC (a,b) (c,d) (e,f))):=avg (a:=(a,b)) (b:=(c,d)) (c:=(e,f)) i h g
def zh(a b c d:Int):sC [.agg [ag a,ag b],.agg [ag c,ag d]]=some (ag (fA (a,b) (c,d))):=rfl
def R5(a b c d:Int):Bu [.agg [ag a,ag b,ag c,ag d]]=some (bO (gz ((a,b),(c,d)))):=rfl
def R4{s:bK}(h:bg s.1=true)(g:bg s.2=true):bg (gz s).1=true/\bg (gz s).2=true:=by
 rcases adH s with e|e<;>rw[e]
 exact⟨h,g⟩;exact⟨g,h⟩
variable{t:bK}
section
variable{sp:gQ}
def aun(u:sp 422=none)(j:sp 311=some sl)(i:sp 312=some Bu)(h:sp 313=some t0)(g:sp 379=some sC)(H:bg t.1=true)(G:bg t.2=true)(F:bg p=true)(s:St):aq (QS sp) 422 [bO t,aN p] s (.bool (so t p)) s:=by
 have E:=R4 H G;have q:so t p=(an (dC (gz t).1 (gz t).2 p) 0&&(b9 (fA (gz t).1 p) 0&&(b9 (fA p (gz t).2) 0&&(!hG (gz t).1 (gz t).2||hG p (gz t).1)))):=rfl;obtain⟨⟨a,b⟩,c,d⟩:=t;obtain⟨e,f⟩:=p;have o:=aaR H G F;have m:=R5 a b c d;rw[q];clear q;generalize gz ((a,b),(c,d))=S at*;obtain⟨⟨C,B⟩,A,z⟩:=S;have k:=Be E.1 E.2 F;have w:=zh C B e f;have D:=zh e f A z;refine aq.of3 Je.1 Je.2 Je.3 Je.4 u rfl ?_;cases e1:an (dC (C,B) (A,z) (e,f)) 0 with
 |false=>simp only[go_sem,seval,bO,aN,bf,aZ,aW,aY,evc,j,i,h,g,o,m,k,e1,dL]
 |true=>
  cases e2:b9 (fA (C,B) (e,f)) 0 with
  |false=>simp only[go_sem,seval,bO,aN,bf,aZ,aW,aY,evc,j,i,h,g,o,m,k,w,e1,e2,eC,dL]
  |true=>
   cases e3:b9 (fA (e,f) (A,z)) 0 with
   |false=>simp only[go_sem,seval,bO,aN,bf,aZ,aW,aY,evc,j,i,h,g,o,m,k,w,D,e1,e2,e3,eC,dL]
   |true=>
    cases e4:hG (C,B) (A,z) with
    |false=>simp only[go_sem,seval,bO,aN,bf,aZ,aW,aY,evc,j,i,h,g,o,m,k,w,D,e1,e2,e3,e4,acA,oq,eC,mZ]
    |true=>simp only[go_sem,seval,bO,aN,bf,aZ,aW,aY,evc,j,i,h,g,o,m,k,w,D,e1,e2,e3,e4,acA,oq,eC,lD]
end
def y7:Sp
 | [u,v]=>(uG u).bind fun t=>(jv v).bind fun p=>bif bg t.1&&(bg t.2&&bg p) then some (.bool (so t p)) else none
 |_=>none
def aub(i:bg t.1=true)(h:bg t.2=true)(g:bg p=true):y7 [bO t,aN p]=some (.bool (so t p)):=by
 simp only[dX,y7,Hn,wd,i,h,g,bX]
def TM:df:=[(311,sl),(312,Bu),(313,t0),(379,sC)]
def afp:dl TM:=.cons Qw (.cons adJ (.cons abR (.cons Rg .nil)))
def aud:cL ah 422 y7:=by
 refine qa afp fun args u h=>?_;unfold y7 at h;split at h;simp only[ak] at h;obtain⟨t,j,p,i,h⟩:=h;obtain⟨g,h⟩:=bc h;simp only[bq] at g;have h:=sI h;subst h;rw[An j,lM i];exact⟨rfl,_,_,aun (sp:=fun f=>gg f TM) rfl rfl rfl rfl rfl g.1 g.2.1 g.2.2 _,rfl,⟨1,rfl⟩⟩;cases h
variable{lc:Ag.Loc}{e:aw}
section
variable{sp:gQ}
noncomputable def Pg:SC:=(.seq (.seq (.region Zb) (.cond (aC 18) (.seq (.block 0 (.seq (.region Zc) (.cond (aC 19) (.seq (.region Zd) .ret) (.seq (.region Ze) (.cond (aC 25) (.seq (.region Zf) .ret) .skip))))) (.seq (.region Zg) .ret)) .skip)) (.seq (.draw Zh IW) (.seq (.seq (.region Y1) (.cond (aC 46) (.region Y2) .skip)) (.seq (.seq (.region Y3) (.cond (aC 53) (.region Y4) .skip)) (.seq (.seq (.region Y5) (.block 1 (.seq (.region Y6) (.cond (aC 59) (.seq (.region Y7) .ret) (.seq (.region Y8) (.cond (aC 61) (.seq (.region Y9) .ret) .skip)))))) (.seq (.region Za) .ret))))))
def aqg:Pf=(.seq (.region aqh) (.seq (.seq (.region aqi) (.cond (aC 11) (.region aqj) .skip)) Pg)):=rfl
noncomputable def Y0:SC:=(.seq (.draw Zh IW) (.seq (.seq (.region Y1) (.cond (aC 46) (.region Y2) .skip)) (.seq (.seq (.region Y3) (.cond (aC 53) (.region Y4) .skip)) (.seq (.seq (.region Y5) (.block 1 (.seq (.region Y6) (.cond (aC 59) (.seq (.region Y7) .ret) (.seq (.region Y8) (.cond (aC 61) (.seq (.region Y9) .ret) .skip)))))) (.seq (.region Za) .ret)))))
def aqf:Pg=(.seq (.seq (.region Zb) (.cond (aC 18) (.seq (.block 0 (.seq (.region Zc) (.cond (aC 19) (.seq (.region Zd) .ret) (.seq (.region Ze) (.cond (aC 25) (.seq (.region Zf) .ret) .skip))))) (.seq (.region Zg) .ret)) .skip)) Y0):=rfl
def aul(g:sp 379=some sC){a b c a' b' c' d':Int}(A:s.gE<=s.aL){g2 g3:Nat}(e2:ac e 2= .Gt 2 g2 0)(u:ac e 3= .Gt 3 g3 0)(l2:lc.get 2 g2=some [ag a,ag b,ag c,ag d])(q:lc.get 3 g3=some [ag a',ag b',ag c',ag d'])(o:lc.gen 2=g2)(m:lc.gen 3=g3)(k:lc.gen 5=0)(j:lc.gen 6=0)(h: ∀e lc,ac e 4=ag (bif an (fA (sh ((a,b),(c,d)) ((a',b'),(c',d'))) (rX ((a,b),(c,d)) ((a',b'),(c',d')))) (-1) then 5 else bif an (fA (sh ((a,b),(c,d)) ((a',b'),(c',d'))) (rX ((a,b),(c,d)) ((a',b'),(c',d')))) 0 then 1 else 0)->K .ret ⟨e,63,lc⟩ s):
 W (QS sp) 314 Y0 ⟨e,63,lc⟩ s K:=by
 have z:=zh a' b' a b;have w:=zh c' d' c d;refine W.seq (W.drawG A ?_);simp only[go_sem,IW,seval,e2,u,l2,q,o,m,k,j];refine WF.sound ?_;unfold sh rX at h;dsimp only at h;cases x1:aX 0 (fA (a',b') (a,b)) with
 |true=>
  cases x2:aX (fA (c',d') (c,d)) 0 with
  |true=>
   rw[x1,x2] at h;have i:=zh a' b' c' d';simp only[cT] at h;cases x3:an (fA (a',b') (c',d')) (-1) with
   |true=>
    simp only[go_sem,seval,e2,u,l2,q,o,m,k,j,g,z,w,i,x1,x2,x3];exact h _ _ (by simp only[sN,seval,x3])
   |false=>
    cases x4:an (fA (a',b') (c',d')) 0 with
    |true=>
     simp only[go_sem,seval,e2,u,l2,q,o,m,k,j,g,z,w,i,x1,x2,x3,x4];exact h _ _ (by simp only[sN,seval,x3,x4])
    |false=>
     simp only[go_sem,seval,e2,u,l2,q,o,m,k,j,g,z,w,i,x1,x2,x3,x4];exact h _ _ (by simp only[sN,seval,x3,x4])
  |false=>
   rw[x1,x2] at h;have i:=zh a' b' c d;simp only[cT,cF] at h;cases x3:an (fA (a',b') (c,d)) (-1) with
   |true=>
    simp only[go_sem,seval,e2,u,l2,q,o,m,k,j,g,z,w,i,x1,x2,x3];exact h _ _ (by simp only[sN,seval,x3])
   |false=>
    cases x4:an (fA (a',b') (c,d)) 0 with
    |true=>
     simp only[go_sem,seval,e2,u,l2,q,o,m,k,j,g,z,w,i,x1,x2,x3,x4];exact h _ _ (by simp only[sN,seval,x3,x4])
    |false=>
     simp only[go_sem,seval,e2,u,l2,q,o,m,k,j,g,z,w,i,x1,x2,x3,x4];exact h _ _ (by simp only[sN,seval,x3,x4])
 |false=>
  cases x2:aX (fA (c',d') (c,d)) 0 with
  |true=>
   rw[x1,x2] at h;have i:=zh a b c' d';simp only[cT,cF] at h;cases x3:an (fA (a,b) (c',d')) (-1) with
   |true=>
    simp only[go_sem,seval,e2,u,l2,q,o,m,k,j,g,z,w,i,x1,x2,x3];exact h _ _ (by simp only[sN,seval,x3])
   |false=>
    cases x4:an (fA (a,b) (c',d')) 0 with
    |true=>
     simp only[go_sem,seval,e2,u,l2,q,o,m,k,j,g,z,w,i,x1,x2,x3,x4];exact h _ _ (by simp only[sN,seval,x3,x4])
    |false=>
     simp only[go_sem,seval,e2,u,l2,q,o,m,k,j,g,z,w,i,x1,x2,x3,x4];exact h _ _ (by simp only[sN,seval,x3,x4])
  |false=>
   rw[x1,x2] at h;have i:=zh a b c d;simp only[cF] at h;cases x3:an (fA (a,b) (c,d)) (-1) with
   |true=>
    simp only[go_sem,seval,e2,u,l2,q,o,m,k,j,g,z,w,i,x1,x2,x3];exact h _ _ (by simp only[sN,seval,x3])
   |false=>
    cases x4:an (fA (a,b) (c,d)) 0 with
    |true=>
     simp only[go_sem,seval,e2,u,l2,q,o,m,k,j,g,z,w,i,x1,x2,x3,x4];exact h _ _ (by simp only[sN,seval,x3,x4])
    |false=>
     simp only[go_sem,seval,e2,u,l2,q,o,m,k,j,g,z,w,i,x1,x2,x3,x4];exact h _ _ (by simp only[sN,seval,x3,x4])
def auc{a b c e f:Int}(i:bg (a,b)=true)(h:bg (c,d)=true)(g:bg (e,f)=true):y7 [.agg [ag a,ag b,ag c,ag d],.agg [ag e,ag f]]=some (.bool (so ((a,b),(c,d)) (e,f))):=aub (t:=((a,b),(c,d))) (p:=(e,f)) i h g
def abr(q:sp 379=some sC)(g:sp 422=some y7){a b c a' b' c' d':Int}(z:bg (a,b)=true)(w:bg (a',b')=true)(u:bg (c',d')=true)(C:s.gE<=s.aL){g2 g3:Nat}(e2:ac e 2= .Gt 2 g2 0)(o:ac e 3= .Gt 3 g3 0)(l2:lc.get 2 g2=some [ag a,ag b,ag c,ag d])(m:lc.get 3 g3=some [ag a',ag b',ag c',ag d'])(k:lc.gen 2=g2)(j:lc.gen 3=g3)(B:lc.gen 5=0)(A:lc.gen 6=0)(h: ∀e lc,ac e 4=ag (y9 ((a,b),(c,d)) ((a',b'),(c',d')))->K .ret ⟨e,63,lc⟩ s):
 W (QS sp) 314 Pg ⟨e,63,lc⟩ s K:=by
 rw[aqf];refine W.seq (WF.sound ?_);unfold y9 at h;dsimp only at h;cases x1:hG (a,b) (c,d) with
 |false=>
  rw[x1] at h;simp only[go_sem,seval,e2,o,l2,m,k,j,oq,x1];refine aul q C ?_ ?_ l2 m k j B A h
  all_goals simp only[sN,seval,e2,o]
 |true=>
  rw[x1] at h;have i:=auc w u z;simp only[cT] at h;cases x2:so ((a',b'),(c',d')) (a,b) with
  |false=>
   rw[x2] at h;rw[x2] at i;simp only[go_sem,seval,e2,o,l2,m,k,j,oq,x1,g,i];exact h _ _ (by simp only[sN,seval])
  |true=>
   rw[x2] at h;rw[x2] at i;simp only[cT] at h;cases x3:hG (a,b) (a',b') with
   |true=>
    simp only[go_sem,seval,e2,o,l2,m,k,j,oq,x1,x3,g,i];exact h _ _ (by simp only[sN,seval,x3,Bool.true_or])
   |false=>
    cases x4:hG (a,b) (c',d') with
    |true=>
     simp only[go_sem,seval,e2,o,l2,m,k,j,oq,x1,x3,x4,g,i];exact h _ _ (by simp only[sN,seval,x3,x4,Bool.or_true])
    |false=>
     simp only[go_sem,seval,e2,o,l2,m,k,j,oq,x1,x3,x4,g,i];exact h _ _ (by simp only[sN,seval,x3,x4,Bool.or_false])
def aum(j:sp 314=none)(i:sp 379=some sC)(g:sp 422=some y7){u v:bK}(m:bg u.1=true)(n2:bg u.2=true)(k:bg v.1=true)(q:bg v.2=true)(o:s.gE<=s.aL):aq (QS sp) 314 [bO u,bO v] s (bF (y8 u v)) s:=by
 obtain⟨⟨a,b⟩,c,d⟩:=u;obtain⟨⟨a',b'⟩,c',d'⟩:=v;refine aq.ofW IX.1 IX.2 IX.3 IX.4 j rfl ?_;rw[aqg];refine W.seq (WF.sound ?_);simp only[go_sem,seval,bO];refine W.seq (WF.sound ?_);unfold y8;cases x1:hG (a',b') (c',d') with
 |true=>
  simp only[go_sem,seval,oq,x1];refine abr (a:=a') (b:=b') (c:=c') (d:=d') (a':=a) (b':=b) (c':=c) (d':=d) i g k m n2 o (g2:=1) (g3:=1) ?_ ?_ ?_ ?_ ?_ ?_ ?_ ?_ ?_
  case refine_9=>exact fun e lc h=>⟨rfl,.inr rfl,h⟩
  all_goals simp only[aV,nY,ai,bH]
 |false=>
  simp only[go_sem,seval,oq,x1];refine abr (a:=a) (b:=b) (c:=c) (d:=d) (a':=a') (b':=b') (c':=c') (d':=d') i g m k q o (g2:=1) (g3:=1) ?_ ?_ ?_ ?_ ?_ ?_ ?_ ?_ ?_
  case refine_9=>exact fun e lc h=>⟨rfl,.inr rfl,h⟩
  all_goals simp only[aV,nY,ai,bH]
end
def zd:Sp
 | [u,v]=>(uG u).bind fun a=>(uG v).bind fun b=>bif bg a.1&&(bg a.2&&(bg b.1&&bg b.2)) then some (bF (y8 a b)) else none
 |_=>none
def auj{a b:bK}(i:bg a.1=true)(n2:bg a.2=true)(h:bg b.1=true)(g:bg b.2=true):zd [bO a,bO b]=some (bF (y8 a b)):=by
 simp only[dX,zd,Hn,i,n2,h,g,bX]
def TN:df:=[(379,sC),(422,y7)]
def afq:dl TN:=.cons Rg (.cons aud .nil)
def auk:cL ah 314 zd:=by
 refine qa afq fun args u h=>?_;unfold zd at h;split at h;simp only[ak] at h;obtain⟨a,j,b,i,h⟩:=h;obtain⟨g,h⟩:=bc h;simp only[bq] at g;have h:=sI h;subst h;rw[An j,An i];exact⟨rfl,_,_,aum (sp:=fun f=>gg f TN) rfl rfl rfl g.1 g.2.1 g.2.2.1 g.2.2.2 (Nat.le_refl _),rfl,⟨1,rfl⟩⟩;cases h
