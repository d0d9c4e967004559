/- Lemmas for ValidShown. -/
import Derived.Test.YtnnppcoplinajaaGreatB1
import Derived.Test.YtnnppcoplinajaaGreatZ1b
import Derived.Sort.Walk0
import Derived.Lib.Bytealg
set_option linter.all false
open Bool renaming and_eq_true→bq,and_false→gA,and_self→bX,false_and→dL,false_or→jV,not_false→mZ,not_true→lD,or_eq_true→uj,true_and→eC,true_or→jH
open List renaming all_eq_true→fD,cons_append→sP,contains_cons→K6,drop→bL,length_cons→cX,length_nil→ct,map_cons→eT,mem_cons→dG,mem_of_getElem?→dM,mem_range→xP,pairwise_cons→sT,take→cQ
open Nat renaming beq→aK,ble_eq_true_of_le→cN,blt→bh,le_of_ble_eq_true→fF,lt_irrefl→cq,reduceAdd→bH,reduceBEq→ai,reduceLT→aA,reduceLeDiff→cz,zero_add→eM,zero_lt_succ→nf
open Go.Operand renaming tmp→aC
open Option renaming bind_eq_some_iff→ak,bind_some→bk,map_some→jZ
open Option.some renaming injEq→aM
open Go.Ag.aq renaming of2→lg
open Go.Proofs.Tryz renaming prog→ah
open Go.Ag.W renaming block→jq,cnSZ→lh,cnTZ→li,cond→ib,loop1→jL,ret→dZ,seq→cC,skip→kO,sreg→bn
namespace Go.Proofs.YtnnppcoplinajaaGreat
open Go.Ag
def small:Nat:=9223372036854775808
def gV:small=9223372036854775808:=rfl
abbrev fO:=ae×ae
def ax(s:ae):aa:=.str s
def kM(t:fO):aa:=.agg [.str t.1,.str t.2]
def gG:aa->Option ae
 | .str s=>some s
 |_=>none
def uH:aa->Option fO
 | .agg [.str a,.str b]=>some (a,b)
 |_=>none
def ij{α β:Type}(g:α->Option β):List α->Option (List β)
 | []=>some []
 |a::l=>(g a).bind fun b=>(ij g l).bind fun r=>some (b::r)
def dW{α:Type}(n:Nat)(c:aa->Option α):aa->Option (List α)
 | .Ge=>some []
 | .list m xs _=>bif aK m n then ij c xs else none
 |_=>none
variable{v:aa}
theorem kQ{s:ae}(h:gG v=some s):v=ax s:=by
 unfold gG at h;split at h;injection h with h;subst h;rfl
 cases h
def L9{t:fO}(h:uH v=some t):v=kM t:=by
 unfold uH at h;split at h;injection h with h;subst h;rfl
 cases h
def FI{α:Type}{c:aa->Option α}{enc:α->aa}(d: ∀v a,c v=some a->v=enc a): ∀ {xs:List aa} {l:List α},ij c xs=some l->xs=l.map enc
 | [],l,h=>by simp only[ij,aM] at h;subst h;rfl
 |x::xs,l,h=>by
  simp only[ij,ak,aM] at h;obtain⟨a,j,r,i,rfl⟩:=h;rw[eT,<-d x a j,<-FI d i]
def yV{α:Type}{c:aa->Option α}{enc:α->aa}(d: ∀a,c (enc a)=some a): ∀(l:List α),ij c (l.map enc)=some l
 | []=>rfl
 |a::l=>by simp only[eT,ij,d,bk,yV d l]
variable{n:Nat}{α:Type}
theorem ig{c:aa->Option α}{enc:α->aa}(d: ∀v a,c v=some a->v=enc a){l:List α}(h:dW n c v=some l):au n enc v l:=by
 unfold dW at h;split at h;injection h with h;exact .inl ⟨rfl,h.symm⟩
 obtain⟨j,i⟩:=bc h
 have:=Nat.eq_of_beq_eq_true j;subst this;rename_i p r;exact .inr ⟨r,by rw[FI d i]⟩;cases h
def kT{c:aa->Option α}{enc:α->aa}(d: ∀a,c (enc a)=some a){l:List α}(h:au n enc v l):dW n c v=some l:=by
 rcases h with⟨rfl,rfl⟩|⟨r,rfl⟩
 rfl;simp only[fc,dW,yV d]
def vq{enc:α->aa}(d: ∀a,bG (enc a)=true)(l:List α):pures (l.map enc)=true:=by
 rw[Bj];intro v c;obtain⟨a,_,rfl⟩:=List.mem_map.1 c;exact d a
def nz{enc:α->aa}(c: ∀a,bG (enc a)=true){l:List α}(h:au n enc v l):dy v=true/\au n enc (cu v) l:=by
 rcases h with⟨rfl,rfl⟩|⟨r,rfl⟩
 exact⟨rfl,.inl ⟨rfl,rfl⟩⟩;exact⟨by simpa[dy] using vq c l,.inr (by
  simp only[cu,kw (vq c l)];exact⟨_,rfl⟩)⟩
def rq(s:ae):bG (ax s)=true:=rfl
def Sq(t:fO):bG (kM t)=true:=rfl
def kF(s:ae):gG (ax s)=some s:=rfl
def Ma(t:fO):uH (kM t)=some t:=rfl
theorem aU(s:St)(n m:Nat)(o:Option aJ):(s.put n o).get [] m=bif m==n then o else s.get [] m:=by
 simp only[St.get,St.put,dI,cF,aD.get_set];by_cases h:m=n;subst h;simp;rw[iN h,bN.2 h];rfl
def eN(s:St)(m:Nat)(o:aJ):(s.new o).get [] m=bif m==s.aL then some o else s.get [] m:=by
 simp only[St.get,St.new,dI,cF,aD.get_set];by_cases h:m=s.aL;subst h;simp;rw[iN h,bN.2 h];rfl
def mL(s:St)(n:Nat)(o:Option aJ):(s.put n o).aL=s.aL:=rfl
def Qx(s:St)(o:aJ):(s.new o).aL=s.aL+1:=rfl
def nq(n:Nat):List (ae×aa)->List dp
 | []=>[]
 |(k,v)::l=>⟨.str k,v,n⟩::nq (n+1) l
def look(k:ae):List (ae×aa)->Option aa
 | []=>none
 |(a,v)::l=>bif k==a then some v else look k l
def rf(k:ae):List (ae×aa)->Nat
 | []=>0
 |(a,_)::l=>bif k==a then 0 else rf k l+1
variable{l:List (ae×aa)}{m:Nat}{s:St}{e t:TypeId}
section
variable{P:Program}{kt:TypeId}(heq: ∀a b:List UInt8,kg P 8 kt (.str a) (.str b)=some (a==b))
include heq
theorem NF: ∀(l:List (ae×aa)) (k:ae) (n i:Nat),nu P kt (.str k) (nq n l) i=some ((look k l).map fun v=>(i+rf k l,⟨.str k,v,n+rf k l⟩))
 | [],k,n,i=>rfl
 |(a,v)::l,k,n,i=>by
  simp only[nq,nu,heq,bk,look,rf];cases h:k==a with
  |true=>
   have:k=a:=by simpa using h
   subst this;simp
  |false=>
   simp only[cF];rw[NF l k (n+1) (i+1)];cases look k l with
   |none=>rfl
   |some u=>
    simp only[jZ];rw[show i+1+rf k l=i+(rf k l+1) by omega,show n+1+rf k l=n+(rf k l+1) by omega]
theorem asz{z:aa}(i: ∀k:List UInt8,lw P t (.str k)=some (kt,e))(d:ei P e=some z){c:Nat}(h:s.get [] m=some (.map (nq 0 l) c))(k:ae):
 oe P [] t (.map m) (.str k) false s=some ((look k l).getD z):=by
 simp only[oe,i,bk,d,A3,h,NF heq l k 0 0];cases look k l<;>rfl
end
def Wg: ∀(l r:List (ae×aa)) (n:Nat),nq n (l++r)=nq n l++nq (n+l.length) r
 | [],r,n=>rfl
 |(a,v)::l,r,n=>by simp only[sP,nq,Wg l r (n+1),cX];congr 3;omega
def tG(k:ae)(v:aa):List (ae×aa)->List (ae×aa)
 | []=>[(k,v)]
 |(a,u)::l=>bif k==a then(k,v)::l else(a,u)::tG k v l
def XN{k:ae}{v:aa}: ∀ {l},look k l=none->tG k v l=l++[(k,v)]
 | [],_=>rfl
 |(a,u)::l,h=>by
  simp only[look] at h;simp only[tG];cases h1:k==a with
  |true=>rw[h1] at h;cases h
  |false=>rw[h1] at h;simp only[cF,XN h,sP]
def Wh{k:ae}{u v:aa}: ∀ {l:List (ae×aa)} {n:Nat},look k l=some u->(nq n l).set (rf k l) ⟨.str k,v,n+rf k l⟩=nq n (tG k v l)
 | [],_,h=>by cases h
 |(a,w)::l,n,h=>by
  simp only[look] at h;simp only[tG,rf,nq];cases h1:k==a with
  |true=>simp[nq]
  |false=>
   rw[h1] at h;simp only[cF,List.set_cons_succ,nq];rw[<-Wh (l:=l) (n:=n+1) h,show n+(rf k l+1)=n+1+rf k l by omega]
def aze{P:Program}{kt:TypeId}(heq: ∀a b:List UInt8,kg P 8 kt (.str a) (.str b)=some (a==b))(p: ∀k:List UInt8,lw P t (.str k)=some (kt,e))(j:s.get [] m=some (.map (nq 0 l) l.length))(k:ae)(v:aa):
 rz P [] t (.map m) (.str k) v s=some (s.put m (some (.map (nq 0 (tG k v l)) (tG k v l).length))):=by
 have c: ∀ {l:List (ae×aa)} {u:aa},look k l=some u->(tG k v l).length=l.length:=by
  intro l
  induction l with
  |nil=>intro u h;cases h
  |cons x l i=>
   obtain⟨a,w⟩:=x;intro u h;simp only[look] at h;simp only[tG];cases h1:k==a with
   |true=>rfl
   |false=>rw[h1] at h;simp only[cF,cX,i h]
 simp only[rz,p,bk,j,NF heq l k 0 0];cases h:look k l with
 |none=>
  simp only[kS,Option.map_none,XN h,Wg,eM];rfl
 |some u=>
  have d:tP (.str k) (.str k)=true:=by simp[tP,xz]
  simp only[jZ,d,cT,c h]
  have:=Wh (v:=v) (n:=0) h;rw[eM] at this ⊢;rw[this]
def yI(b:UInt8):Bool:=P1 b.toNat
def H8(b:UInt8):Bool:=HG b.toNat
def C8(s:ae):Bool:=s.all fun b=>yI b||H8 b||aK b.toNat 95
def jA(s:ae):Bool:=match s with| []=>false|b::r=>yI b&&C8 r&&Nat.ble (b::r).length 24
def kY:Sp
 | [.str s]=>bif bh s.length small then some (.bool (jA s)) else none
 |_=>none
def A8{s:ae}(h:s.length<small):kY [.str s]=some (.bool (jA s)):=by
 simp only[kY,ol,h,dT,cT]
def sn(i:Nat)(b:UInt8):Bool:=yI b||(!(i==0)&&(H8 b||(b.toNat==95)))
def sk:Nat->ae->Bool
 |_,[]=>true
 |i,b::r=>sn i b&&sk (i+1) r
def Qp: ∀(s:ae) (i:Nat),sk (i+1) s=C8 s
 | [],_=>rfl
 |b::r,i=>by
  simp only[sk,C8,List.all_cons];rw[Qp r (i+1)];simp[sn,C8,Bool.or_assoc,ja]
def Et(b:UInt8):an ((yd b.toNat:Nat):Int) 3=yI b:=by
 rw[show(3:Int)=((3:Nat):Int) from rfl,AN];unfold yd yI;cases P1 b.toNat with
 |true=>rfl
 |false=>
  simp only[cF];cases HG b.toNat with
  |true=>rfl
  |false=>
   simp only[cF];cases FK b.toNat [32,9,10] with
   |true=>rfl
   |false=>
    simp only[cF];cases FK b.toNat [59,44,46,58,40,41,123,125,91,93,61,60,62,47,45] with
    |true=>rfl
    |false=>
     simp only[cF];cases aK b.toNat 35<;>cases aK b.toNat 95<;>cases aK b.toNat 34<;>rfl
def VW:(List.range 256).all (fun n=>(aK (yd n) 4==HG n)&&(aK (yd n) 5==aK n 95))=true:=by decide+kernel
def MO(b:UInt8):an ((yd b.toNat:Nat):Int) 4=H8 b:=by
 rw[show(4:Int)=((4:Nat):Int) from rfl,AN,<-ja]
 have:=fD.1 VW b.toNat (xP.2 b.toNat_lt);simp only[bq,bE] at this;exact this.1
def VT(b:UInt8):an ((yd b.toNat:Nat):Int) 5=(b.toNat==95):=by
 rw[<-ja b.toNat,show(5:Int)=((5:Nat):Int) from rfl,AN,<-ja]
 have:=fD.1 VW b.toNat (xP.2 b.toNat_lt);simp only[bq,bE] at this;exact this.2
variable{g:Nat}
section
variable{sp:gQ}
def as9{str:ae}(F:str.length<9223372036854775808): ∀(d c:ae) (e:aw) (lc:Ag.Loc),str=c++d->
 ac e 0= .str str->ac e 3= .Gt 3 g 0->lc.gen 3=g->lc.get 3 g=some (tt 256 0)->ac e 8= .int .i64 (str.length:Nat)->ac e 9= .int .i64 (c.length:Nat)->
 W (QS sp) 163 (.loop aoZ) ⟨e,39,lc⟩ s fun x fr A=>A=s/\fr.size=39/\((x= .exit 0/\ac fr.env 0= .str str/\sk c.length d=true)\/(x= .ret/\ac fr.env 2= .bool false/\sk c.length d=false)):=by
 intro d
 induction d with
 |nil=>
  intro c e lc i R O E D J z;have C:str.length=c.length:=by rw[i];simp
  refine jL ?_;refine bn ?_;simp only[aR,aA,J,z,C,cq];refine cC (W.cnFZ ?_);refine W.exit ?_;refine⟨rfl,rfl,.inl ⟨rfl,?_,rfl⟩⟩;simp only[dc,ai, *]
 |cons b d G=>
  intro c e lc i R O E D J z;have I:c.length<str.length:=by rw[i];simp
  have y:str.drop c.length=b::d:=by rw[i];simp
  have M:b.toNat<256:=b.toNat_lt;have p:=VU 256 0 b.toNat M;rw[eM] at p;have w:=ug (n:=c.length) (by omega);have q:an (c.length:Int) 0=(c.length==0):=AN _ 0;refine jL ?_;refine bn ?_;simp only[aR,aA,J,z,I];refine cC (li (kO ?_));refine cC (jq ?_);refine bn ?_;simp only[aR,ai,aA,z];refine bn ?_;simp only[aR,jM,ai,aA,Kh,R,O,y,M,E,D,p,Nat.mul_one];refine bn ?_;have fin: ∀K B,ac K 30= .bool true->W (QS sp) 163 (.cond (aC 30) (.seq (.region ao0) .ret) .skip) ⟨K,39,B⟩ s fun x fr A=>x= .ret/\A=s/\fr.size=39/\ac fr.env 2= .bool false:=by
   intro K B h;refine ib (t:=true) (by simp only[dA,h]) (bn ?_);simp only[gY,pd,aA];exact dZ ⟨rfl,rfl,rfl,by simp only[iQ,ai,cT, *]⟩
  cases hL:yI b with
  |true=>
   simp only[aR,ai,aA,Et,hL];refine lh ?_;simp only[qA,fe];refine W.reg ?_;simp only[aR,ie,ai,aA,z,w];refine(G (c++[b]) _ _ (by rw[i];simp) (by simp only[dc,ai, *]) (by simp only[dc,ai, *]) E D (by simp only[dc,ai, *]) (by simp only[aV,kS,ai])).mono ?_;have j:sn c.length b=true:=by simp[sn,hL]
   simp only[kS,sk,j,eC];exact fun _ _ _ h=>h
  |false=>
  cases hz:c.length==0 with
  |true=>
   simp only[aR,ai,aA,q,Et,hL,hz];refine(fin _ _ ?_).mono ?_;simp only[aV,ai, *];rintro x fr A ⟨rfl,rfl,H,h⟩;exact⟨rfl,H,.inr ⟨rfl,h,by simp[sk,sn,hL,hz]⟩⟩
  |false=>
  cases hD:H8 b with
  |true=>
   simp only[aR,ai,aA,q,Et,MO,hL,hz,hD];refine lh ?_;simp only[qA,fe];refine W.reg ?_;simp only[aR,ie,ai,aA,z,w];refine(G (c++[b]) _ _ (by rw[i];simp) (by simp only[dc,ai, *]) (by simp only[dc,ai, *]) E D (by simp only[dc,ai, *]) (by simp only[aV,kS,ai])).mono ?_;have j:sn c.length b=true:=by simp[sn,hL,hz,hD]
   simp only[kS,sk,j,eC];exact fun _ _ _ h=>h
  |false=>
  cases hU:b.toNat==95 with
  |true=>
   simp only[aR,ai,aA,q,Et,MO,VT,hL,hz,hD,hU];refine lh ?_;simp only[qA,fe];refine W.reg ?_;simp only[aR,ie,ai,aA,z,w];refine(G (c++[b]) _ _ (by rw[i];simp) (by simp only[dc,ai, *]) (by simp only[dc,ai, *]) E D (by simp only[dc,ai, *]) (by simp only[aV,kS,ai])).mono ?_;have j:sn c.length b=true:=by simp[sn,hL,hz,hD,hU]
   simp only[kS,sk,j,eC];exact fun _ _ _ h=>h
  |false=>
   simp only[aR,ai,aA,q,Et,MO,VT,hL,hz,hD,hU];refine(fin _ _ ?_).mono ?_;simp only[aV,ai, *];rintro x fr A ⟨rfl,rfl,H,h⟩;exact⟨rfl,H,.inr ⟨rfl,h,by simp[sk,sn,hL,hz,hD,hU]⟩⟩
def ata(w:sp 260=some KI)(h94:sp 163=none)(str:ae)(d:str.length<9223372036854775808)(s:St):aq (QS sp) 163 [.str str] s (.bool (jA str)) s:=by
 have i:KI []=some (.agg (tt 256 0)):=rfl;have p:=VV 256 0;refine lg Iv.1 Iv.2 Iv.3 Iv.4 h94 ?_;refine bn ?_;simp only[aR,fP,fH,aA,cz];refine bn ?_;have E:ei ah 320=some (.agg (aW [.int .u8 0] 256)):=by kernel_rfl
 have j:(aW [aa.int .u8 0] 256).length=256:=by kernel_rfl
 have F:eR (aW [aa.int .u8 0] 256) 0 (tt 256 0)=some (tt 256 0):=by
  simp only[eR,j,p,JG];have:bL (0+256) (aW [aa.int .u8 0] 256)=[]:=List.drop_eq_nil_of_le (by rw[j];omega);rw[this];simp
 simp only[aR,jM,w,i,E,F,p,ai,aA,amr];refine cC (bn ?_);simp only[aR,jM,ai,aA];refine jq ?_;refine(as9 d (g:=1) str [] _ _ rfl (by simp only[aV,ai, *]) (by simp only[aV,ai, *]) (by simp only[uY,fQ,ai,cT]) (by simp only[f7,ai,cT]) (by simp only[aV,ai, *]) (by simp only[aV,ai];rfl)).mono ?_;rintro x ⟨e,D,I⟩ H ⟨rfl,z,⟨rfl,y,c⟩|⟨rfl,q,c⟩⟩;have z:D=39:=z;subst z;have y:ac e 0= .str str:=y;show W (QS sp) 163 _ _ _ _;refine bn ?_;have B:b9 (str.length:Int) 24=decide (str.length<=24):=H4 _ 24;cases str with
 |nil=>
  simp only[aR,ai,aA,y];refine dZ ⟨rfl,.inr rfl,dD ?_ rfl⟩;simp only[aV,ai, *];rfl
 |cons b r=>
  have A:((b::r:ae)== [])=false:=rfl;simp only[aR,jM,ai,aA,y,A];refine dZ ⟨rfl,.inr rfl,dD ?_ rfl⟩;simp only[aV,ai];have G:jA (b::r)=decide ((b::r).length<=24):=by
   simp only[sk,ct,eM,bq] at c;have C:yI b=true:=by simpa[sn] using c.1
   have q:C8 r=true:=by rw[<-Qp r 0];exact c.2
   simp only[jA,C,q,eC,JG]
  rw[G];exact congrArg aa.bool B
 refine⟨rfl,.inr rfl,dD ?_ rfl⟩;rw[q];cases str with
 |nil=>cases c
 |cons b r=>
  simp only[sk,ct,eM,Bool.and_eq_false_iff] at c;refine congrArg aa.bool ?_;rcases c with h|h
  have C:yI b=false:=by simpa[sn] using h
  simp[jA,C];have q:C8 r=false:=by rw[<-Qp r 0];exact h
  simp[jA,q]
end
def T2:df:=(260,KI)::T1
def TC:dl T2:=.cons axN TB
def Qq:cL ah 163 kY:=by
 intro args v c G h w i j p;unfold kY at c;split at c;rename_i s;obtain⟨d,c⟩:=bc c;injection c with c;subst c
 have d:s.length<small:=fF d;exact mT (Q:=QT T2) (mE TC) (fun _=>nf 1) (args:=[.str s]) (v:=.bool (jA s)) (s':=s0) rfl (ata (sp:=fun f=>gg f T2) rfl rfl s d s0) rfl ⟨1,rfl⟩ G h w i j p;cases c
def qd(last:ae)(t:fO):Bool:= !jA t.1||Ag.leBytes t.1 last||(t.2== [])||decide (200<t.2.length)
def uf:ae->List fO->Bool
 |_,[]=>true
 |last,t::r=>bif qd last t then false else uf t.1 r
def lZ(l:List fO):Bool:=uf [] l&&decide (l.length<=60)
variable{l:List fO}
section
variable{sp:gQ}(h94:sp 163=some kY)
include h94
theorem ayq(K:au 2 kM v l)(T: ∀t∈l,t.1.length<small)(E:l.length<small): ∀(c d:List fO) (e:aw) (lc:Ag.Loc) (last:ae),l=d++c->
 ac e 0=v->ac e 6=v->ac e 7= .int .i64 (l.length:Nat)->ac e 8= .int .i64 (d.length:Nat)->ac e 3= .str last->
 W (QS sp) 164 (.loop ao1) ⟨e,39,lc⟩ s fun x fr p=>p=s/\fr.size=39/\((x= .exit 0/\ac fr.env 0=v/\uf last c=true)\/(x= .ret/\ac fr.env 2= .bool false/\uf last c=false)):=by
 intro c
 induction c with
 |nil=>
  intro d e lc last i O M I C D;have y:l.length=d.length:=by rw[i];simp
  refine jL ?_;refine bn ?_;simp only[aR,aA,I,C,y,cq];refine cC (ib (t:=false) (by simp only[dA,QB]) ?_);refine W.exit ?_;refine⟨rfl,rfl,.inl ⟨rfl,?_,rfl⟩⟩;simp only[dc,ai,O]
 |cons t c R=>
  intro d e lc last i O M I C D;have G:d.length<l.length:=by rw[i];simp
  have B:l[d.length]? =some t:=by rw[i];simp
  have H:=fun lc=>K.at sJ.2.2.1 B lc .i64;have U:=K.ge;have j:=A8 (T t (dM B));have S:=gV;have F:=ug (n:=d.length) (by omega);refine jL ?_;refine bn ?_;simp only[aR,aA,I,C,G];refine cC (ib (t:=true) (by simp only[dA,QB]) (kO ?_));refine cC (jq ?_);refine bn ?_;simp only[aR,jM,cut,eR,cQ,bL,ai,aA,bH,cz,Ki,N4,M,C,H,kM];refine cC (bn ?_);have fin: ∀J w,ac J 32= .bool true->qd last t=true->W (QS sp) 164 (.cond (aC 32) (.seq (.region ao2) .ret) .skip) ⟨J,39,w⟩ s fun x fr p=>x= .ret/\p=s/\fr.size=39/\ac fr.env 2= .bool false:=by
   intro J w h _;refine ib (t:=true) (by simp only[dA,h]) (bn ?_);simp only[gY,pd,aA];exact dZ ⟨rfl,rfl,rfl,by simp only[iQ,ai,cT, *]⟩
  cases hb1:jA t.1 with
  |false=>
   simp only[aR,bL,ai,aA,gK,uT,h94,j,hb1];refine(fin _ _ ?_ ?_).mono ?_;simp only[aV,ai, *];simp[qd,hb1];rintro x fr p ⟨rfl,rfl,q,h⟩;exact⟨rfl,q,.inr ⟨rfl,h,by simp[uf,qd,hb1]⟩⟩
  |true=>
  cases hb2:Ag.leBytes t.1 last with
  |true=>
   simp only[aR,bL,ai,aA,gK,uT,D,h94,j,hb1,hb2];refine(fin _ _ ?_ ?_).mono ?_;simp only[aV,ai, *];simp[qd,hb1,hb2];rintro x fr p ⟨rfl,rfl,q,h⟩;exact⟨rfl,q,.inr ⟨rfl,h,by simp[uf,qd,hb1,hb2]⟩⟩
  |false=>
  cases hb3:t.2== [] with
  |true=>
   simp only[aR,bL,ai,aA,gK,uT,AA,D,h94,j,hb1,hb2,hb3];refine(fin _ _ ?_ ?_).mono ?_;simp only[aV,ai, *];simp[qd,hb1,hb2,hb3];rintro x fr p ⟨rfl,rfl,q,h⟩;exact⟨rfl,q,.inr ⟨rfl,h,by simp[uf,qd,hb1,hb2,hb3]⟩⟩
  |false=>
  have z:aX 200 (t.2.length:Nat)=decide (200<t.2.length):=yG 200 _;cases hb4:decide (200<t.2.length) with
  |true=>
   simp only[aR,jM,bL,ai,aA,gK,uT,AA,N4,D,h94,j,hb1,hb2,hb3,z,hb4];refine(fin _ _ ?_ ?_).mono ?_;simp only[aV,ai, *];simp[qd,hb1,hb2,hb3,hb4];rintro x fr p ⟨rfl,rfl,q,h⟩;exact⟨rfl,q,.inr ⟨rfl,h,by simp[uf,qd,hb1,hb2,hb3,hb4]⟩⟩
  |false=>
   simp only[aR,jM,bL,ai,aA,gK,uT,AA,N4,D,h94,j,hb1,hb2,hb3,z,hb4];refine lh ?_;simp only[fe];refine W.reg ?_;simp only[aR,ie,bL,ai,aA,gK,uT];refine W.reg ?_;simp only[aR,ie,ai,aA,C,F];refine(R (d++[t]) _ _ t.1 (by rw[i];simp) (by simp only[dc,ai, *]) (by simp only[dc,ai, *]) (by simp only[dc,ai, *]) (by simp only[aV,kS,ai]) (by simp only[aV,ai, *])).mono ?_;have A:qd last t=false:=by simp[qd,hb1,hb2,hb3,hb4]
   simp only[uf,A,cF];exact fun _ _ _ h=>h
theorem ayr(h95:sp 164=none)(p:au 2 kM v l)(z: ∀t∈l,t.1.length<small)(c:l.length<small)(s:St):aq (QS sp) 164 [v] s (.bool (lZ l)) s:=by
 have d:=fun y s=>p.lenS sJ y s;have i:=p.ge;refine lg Iw.1 Iw.2 Iw.3 Iw.4 h95 ?_;refine bn ?_;simp only[aR,fP,fH,aA,cz];refine bn ?_;simp only[gY,FV,aA];refine cC (bn ?_);simp only[aR,ai,aA,i,d];refine jq ?_;refine(ayq h94 p z c l [] _ _ [] rfl (by simp only[aV,ai, *]) (by simp only[aV,ai, *]) (by simp only[aV,ai, *]) (by simp only[aV,ai];rfl) (by simp only[aV,ai, *])).mono ?_;rintro x ⟨e,w,C⟩ B ⟨rfl,j,⟨rfl,q,h⟩|⟨rfl,A,h⟩⟩;have j:w=39:=j;subst j;have q:ac e 0=v:=q;show W (QS sp) 164 _ _ _ _;refine bn ?_;simp only[aR,ai,aA,q,i,d];refine dZ ⟨rfl,.inr rfl,dD ?_ rfl⟩;simp only[aV,ai,lZ,h,eC];exact congrArg aa.bool (H4 l.length 60);exact⟨rfl,.inr rfl,dD (by rw[A];simp[lZ,h]) rfl⟩
end
def Bt:List fO->Bool
 | []=>true
 |t::l=>bh t.1.length small&&Bt l
def RT: ∀ {l:List fO},Bt l=true-> ∀t∈l,t.1.length<small
 | [],_,_,h=>by cases h
 |a::l,h,t,c=>by
  simp only[Bt,bq] at h;rcases dG.1 c with rfl|c
  exact fF h.1;exact RT h.2 t c
def RU: ∀ {l:List fO},(∀t∈l,t.1.length<small)->Bt l=true
 | [],_=>rfl
 |a::l,h=>by
  simp only[Bt,bq];exact⟨cN (h a (by simp)),RU fun t c=>h t (by simp[c])⟩
def DS:Sp
 | [v]=>(dW 2 uH v).bind fun l=>bif bh l.length small&&Bt l then some (.bool (lZ l)) else none
 |_=>none
def ayn(h:au 2 kM v l)(d:l.length<small)(c: ∀t∈l,t.1.length<small):DS [v]=some (.bool (lZ l)):=by
 simp only[go_sem,DS,kT Ma h,d,RU c]
def T3:df:=(163,kY)::T2
def TD:dl T3:=.cons Qq TC
def ayo:cL ah 164 DS:=by
 intro args u c G h w i j p;unfold DS at c;split at c;rename_i v;simp only[ak] at c;obtain⟨l,z,c⟩:=c;obtain⟨d,c⟩:=bc c;injection c with c;subst c
 simp only[bq] at d;have y:au 2 kM v l:=ig (fun _ _=>L9) z;obtain⟨x,q⟩:=nz Sq y;exact mT (Q:=QT T3) (mE TD) (fun _=>nf 1) (args:=[v]) (v:=.bool (lZ l)) (s':=s0) (by simp only[dK,x,bX])
  (ayr (sp:=fun f=>gg f T3) rfl rfl q (RT d.2) (fF d.1) s0) rfl ⟨1,rfl⟩ G h w i j p
 cases c
def pm(k:Int):ae:=bif an k 1 then [110,111,100,101] else bif an k 2 then [119,97,121] else bif an k 3 then [97,114,101,97] else bif an k 4 then [114,111,117,116,101] else bif an k 5 then [116,117,114,110] else []
def GK:Sp
 | [.int .i64 k]=>some (.str (pm k))
 |_=>none
def ajp:oa [] 100 162 [.int .i64 0]=some (.str (pm 0),0):=by kernel_rfl
def ajq:oa [] 100 162 [.int .i64 1]=some (.str (pm 1),0):=by kernel_rfl
def ajr:oa [] 100 162 [.int .i64 2]=some (.str (pm 2),0):=by kernel_rfl
def ajs:oa [] 100 162 [.int .i64 3]=some (.str (pm 3),0):=by kernel_rfl
def ajt:oa [] 100 162 [.int .i64 4]=some (.str (pm 4),0):=by kernel_rfl
def aju:oa [] 100 162 [.int .i64 5]=some (.str (pm 5),0):=by kernel_rfl
variable{k:Int}
def azC{sp:gQ}(h93:sp 162=none)(p:k<0\/6<=k)(s:St):aq (QS sp) 162 [.int .i64 k] s (.str []) s:=by
 refine lg Iu.1 Iu.2 Iu.3 Iu.4 h93 ?_;refine bn ?_;simp only[aR,fP,fH,aA,cz];refine bn ?_;simp only[aR,jM,eR,cQ,bL,ai,aA,bH,Nat.reduceMul,cz,UU,amq,aZ];refine cC (bn ?_);have fin: ∀i c,ac i 10= .bool true->W (QS sp) 162 (.cond (aC 10) (.seq (.region aoY) .ret) .skip) ⟨i,14,c⟩ s fun x fr d=>x= .ret/\d=s/\ac fr.env 2= .str []:=by
  intro i c h;refine ib (t:=true) (by simp only[dA,h]) (bn ?_);simp only[gY,FV,aA];exact dZ ⟨rfl,rfl,by simp only[iQ,ai,cT, *]⟩
 cases h1:aX k 0 with
 |true=>
  simp only[aR,ai,aA,h1];refine(fin _ _ ?_).mono ?_;simp only[aV,ai, *];rintro x fr d ⟨rfl,rfl,h⟩;exact⟨rfl,.inr rfl,dD h rfl⟩
 |false=>
  have j:b9 6 k=true:=by
   simp only[aX,decide_eq_false_iff_not] at h1;simp only[b9,dE];omega
  simp only[aR,ai,aA,h1,j];refine(fin _ _ ?_).mono ?_;simp only[aV,ai, *];rintro x fr d ⟨rfl,rfl,h⟩;exact⟨rfl,.inr rfl,dD h rfl⟩
theorem rZ{a b:Int}(h:a≠b):an a b=false:=bN.2 h
def azA:cL ah 162 GK:=by
 intro args u p G h w c d i;unfold GK at p;split at p;rename_i k;injection p with p;subst p
 have j:(k<0\/6<=k)\/k=0\/k=1\/k=2\/k=3\/k=4\/k=5:=by omega
 rcases j with x|rfl|rfl|rfl|rfl|rfl|rfl
 have q:pm k=[]:=by
  simp only[pm,rZ (show k≠1 by omega),rZ (show k≠2 by omega),rZ (show k≠3 by omega),rZ (show k≠4 by omega),rZ (show k≠5 by omega),cF]
 rw[q];exact mT (Q:=QT []) (mE .nil) (fun _=>nf 1) (args:=[.int .i64 k]) (v:=.str []) (s':=s0) rfl (azC (sp:=fun f=>gg f []) rfl x s0) rfl ⟨1,rfl⟩ G h w c d i;exact qb .nil ajp (args':=[.int .i64 0]) rfl rfl G h w c d i;exact qb .nil ajq (args':=[.int .i64 1]) rfl rfl G h w c d i;exact qb .nil ajr (args':=[.int .i64 2]) rfl rfl G h w c d i;exact qb .nil ajs (args':=[.int .i64 3]) rfl rfl G h w c d i;exact qb .nil ajt (args':=[.int .i64 4]) rfl rfl G h w c d i;exact qb .nil aju (args':=[.int .i64 5]) rfl rfl G h w c d i;cases p
def tQ(k:Int):Nat:=bif an k 2 then 2 else bif an k 3 then 3 else bif an k 4 then 1 else bif an k 5 then 3 else 0
def CR:Sp
 | [.int .i64 k]=>bif b9 0 k&&aX k 6 then some (.int .i64 (tQ k:Nat)) else none
 |_=>none
def ajv:oa [] 100 165 [.int .i64 0]=some (.int .i64 (tQ 0:Nat),0):=by kernel_rfl
def ajw:oa [] 100 165 [.int .i64 1]=some (.int .i64 (tQ 1:Nat),0):=by kernel_rfl
def ajx:oa [] 100 165 [.int .i64 2]=some (.int .i64 (tQ 2:Nat),0):=by kernel_rfl
def ajy:oa [] 100 165 [.int .i64 3]=some (.int .i64 (tQ 3:Nat),0):=by kernel_rfl
def ajz:oa [] 100 165 [.int .i64 4]=some (.int .i64 (tQ 4:Nat),0):=by kernel_rfl
def ajA:oa [] 100 165 [.int .i64 5]=some (.int .i64 (tQ 5:Nat),0):=by kernel_rfl
def arJ:cL ah 165 CR:=by
 intro args u c G h w i j p;unfold CR at c;split at c;rename_i k;obtain⟨q,c⟩:=bc c;injection c with c;subst c
 simp only[b9,aX,bq,dE] at q;have d:k=0\/k=1\/k=2\/k=3\/k=4\/k=5:=by omega
 rcases d with rfl|rfl|rfl|rfl|rfl|rfl
 exact qb .nil ajv (args':=[.int .i64 0]) rfl rfl G h w i j p;exact qb .nil ajw (args':=[.int .i64 1]) rfl rfl G h w i j p;exact qb .nil ajx (args':=[.int .i64 2]) rfl rfl G h w i j p;exact qb .nil ajy (args':=[.int .i64 3]) rfl rfl G h w i j p;exact qb .nil ajz (args':=[.int .i64 4]) rfl rfl G h w i j p;exact qb .nil ajA (args':=[.int .i64 5]) rfl rfl G h w i j p;cases c
def qX(x y:Int):Bool:=b9 0 x&&aX x 1048576&&b9 0 y&&aX y 1048576
def FY:Sp
 | [.agg [.int .i64 x,.int .i64 y]]=>some (.bool (qX x y))
 |_=>none
def auh{sp:gQ}(h99:sp 168=none)(x y:Int)(s:St):aq (QS sp) 168 [.agg [.int .i64 x,.int .i64 y]] s (.bool (qX x y)) s:=by
 refine lg Iy.1 Iy.2 Iy.3 Iy.4 h99 ?_;refine bn ?_;simp only[aR,fP,fH,aA,cz,ams];refine bn ?_;cases h1:b9 0 x with
 |false=>
  simp only[aR,bL,ai,aA,jn,yx,h1];refine dZ ⟨rfl,.inr rfl,dD ?_ rfl⟩;simp only[aV,ai, *];simp only[qX,h1,dL]
 |true=>
 cases h2:aX x 1048576 with
 |false=>
  simp only[aR,bL,ai,aA,jn,yx,h1,h2];refine dZ ⟨rfl,.inr rfl,dD ?_ rfl⟩;simp only[aV,ai, *];simp only[qX,h1,h2,gA,dL]
 |true=>
 cases h3:b9 0 y with
 |false=>
  simp only[aR,bL,ai,aA,jn,yx,Ck,h1,h2,h3];refine dZ ⟨rfl,.inr rfl,dD ?_ rfl⟩;simp only[aV,ai, *];simp only[qX,h1,h2,h3,gA,dL]
 |true=>
  simp only[aR,bL,ai,aA,jn,yx,Ck,h1,h2,h3];refine dZ ⟨rfl,.inr rfl,dD ?_ rfl⟩;simp only[aV,ai, *];simp only[qX,h1,h2,h3,eC]
def aug:cL ah 168 FY:=by
 intro args u c G h w d i j;unfold FY at c;split at c;rename_i x y;injection c with c;subst c
 exact mT (Q:=QT []) (mE .nil) (fun _=>nf 1) (args:=[.agg [.int .i64 x,.int .i64 y]]) (v:=.bool (qX x y)) (s':=s0) rfl (auh (sp:=fun f=>gg f []) rfl x y s0) rfl ⟨1,rfl⟩ G h w d i j;cases c
def T4:df:=(162,GK)::(165,CR)::(168,FY)::(164,DS)::T3
def TE:dl T4:=.cons azA (.cons arJ (.cons aug (.cons ayo TD)))
def yO(P:Program)(t:TypeId)(off:Nat):Option aJ->Option aa
 |some (.cells cs)=>iC P t cs off
 |some (.fix (.cells cs))=>iC P t cs off
 |_=>none
theorem aP(P:Program)(mk:aH)(t:TypeId)(n off:Nat)(lc:Ag.Loc)(s:St):lS P mk t (.ptr n off) lc s=yO P t off (s.get mk n):=by
 simp only[lS];cases s.get mk n with
 |none=>rfl
 |some o=>
  cases o with
  |fix o=>cases o<;>rfl
  |_=>rfl
def P7(P:Program)(t:TypeId)(off:Nat)(cs:List aa):yO P t off (some (.fix (.cells cs)))=iC P t cs off:=rfl
theorem aQ(P:Program)(t:TypeId)(off:Nat)(cs:List aa):yO P t off (some (.cells cs))=iC P t cs off:=rfl
noncomputable def KN(lc:Ag.Loc)(s:St)(m off:Nat)(v:aa):Option aJ->Option (Ag.Loc×St)
 |some (.cells cs)=>(eR cs off v.cells).bind fun c=>some (lc,s.put m (some (.cells c)))
 |_=>none
def cS(P:Program)(mk:aH)(t:TypeId)(m off:Nat)(v:aa)(lc:Ag.Loc)(s:St):ub P mk t (.ptr m off) v lc s=(dh P t).bind fun n=>bif aK v.cells.length n&&bh 0 n then KN lc s m off v (s.get mk m) else none:=by
 simp only[ub];cases s.get mk m with
 |none=>rfl
 |some o=>cases o<;>rfl
def cV(lc:Ag.Loc)(s:St)(m off:Nat)(v:aa)(cs:List aa):KN lc s m off v (some (.cells cs))=(eR cs off v.cells).bind fun c=>some (lc,s.put m (some (.cells c))):=rfl
variable{fr:Fr}{N:Fr->St->Prop}{args:List aa}{l:List ay}
section
variable{Q:aF}{f:FuncId}
def LJ(n:Nat)(h:WP Q f (l.take n) fr s fun fr s=>WL Q f (l.drop n) fr s N):WL Q f l fr s N:=by
 obtain⟨i,j,d,c⟩:=h
 have:=WL.app d c;rwa [List.take_append_drop] at this
def LI{d:Tmp}{x:Operand}{av:Array Operand}{c:Array TypeId}{e:aw}{sz:Nat}{lc:Ag.Loc}{s1:St}{g:FuncId}(p:callee e ⟨.value x,av,c⟩=some (g,args))(h:aq Q g args s v s1)(j:d<sz)(i:WL Q f l ⟨e.set d (some v),sz,lc⟩ s1 N):
 WL Q f (⟨some d,.call ⟨.value x,av,c⟩,.aw⟩::l) ⟨e,sz,lc⟩ s N:=
 WL.call rfl rfl (fun b=>by simp) p h (fS.2 ⟨j,rfl⟩) i
def LH(h:WP Q f l fr s N):WL Q f l fr s N:=let⟨_,_,h1,h2⟩:=h;WL.run h1 h2
end
structure Obj where
 id:ae
 Al:Int
 x:Int
 y:Int
 refsV:aa
 tagsV:aa
 gT:List ae
 uP:List fO
def Obj.cells(o:Obj):List aa:=[.str o.id,.int .i64 o.Al,.int .i64 o.x,.int .i64 o.y,o.refsV,o.tagsV]
def Obj.val(o:Obj):aa:=.agg o.cells
structure Obj.Ok (o:Obj):Prop where
 gT:au 1 ax o.refsV o.gT
 uP:au 2 kM o.tagsV o.uP
 id:o.id.length<small
 reflen:o.gT.length<small
 ref: ∀r∈o.gT,r.length<small
 taglen:o.uP.length<small
 key: ∀t∈o.uP,t.1.length<small
def vC(c:List ae):List (ae×aa):=c.map fun k=>(k,.bool true)
def aam(k:ae): ∀c,look k (vC c)=bif c.contains k then some (.bool true) else none
 | []=>rfl
 |a::c=>by
  have d:=aam k c;simp only[vC,eT,look,K6] at d ⊢;rw[d];cases k==a<;>simp
def asx(k:ae)(c:List ae):(look k (vC c)).getD (.bool false)= .bool (c.contains k):=by
 rw[aam];cases c.contains k<;>rfl
def Ah(k:ae)(c:List ae):List ae:=bif c.contains k then c else c++[k]
def XO(k:ae): ∀c,tG k (.bool true) (vC c)=vC (Ah k c)
 | []=>rfl
 |a::c=>by
  have d:=XO k c;simp only[vC,eT,tG,Ah,K6] at d ⊢;cases h:k==a with
  |true=>
   have:k=a:=by simpa using h
   subst this;simp
  |false=>
   simp only[cF,jV,d];cases c.contains k<;>simp
def DY(Al:Int)(last:ae)(seen:List ae)(r:ae):Bool:=((an Al 2&&(r==last))||(an Al 3&&seen.contains r))|| !jA r
structure nS (s:St) (o:Obj) (po pl ps m:Nat) (last:ae) (seen:List ae):Prop where
 ho:s.get [] po=some (.cells o.cells)
 hl:s.get [] pl=some (.cells [.str last])
 hs:s.get [] ps=some (.cells [.map m])
 hm:s.get [] m=some (.map (nq 0 (vC seen)) (vC seen).length)
 d1:(pl==m)=false
 d2:(po==m)=false
 d3:(po==pl)=false
 d4:(ps==m)=false
 d5:(ps==pl)=false
 d6:(m==pl)=false
noncomputable def nS.aL(s:St)(pl m:Nat)(seen:List ae)(r:ae):St:=(s.put m (some (.map (nq 0 (vC (Ah r seen))) (vC (Ah r seen)).length))).put pl (some (.cells [.str r]))
variable{seen:List ae}{pl po ps:Nat}{o:Obj}{last:ae}
def nS.after(c:nS s o po pl ps m last seen)(r:ae):nS (nS.aL s pl m seen r) o po pl ps m r (Ah r seen):=by
 refine⟨?_,?_,?_,?_,c.d1,c.d2,c.d3,c.d4,c.d5,c.d6⟩<;>simp only[nS.aL,aU,c.d1,c.d2,c.d3,c.d4,c.d5,c.d6,bS,cT,cF,c.ho,c.hs]
section
variable{sp:gQ}(h94:sp 163=some kY)
include h94
theorem azH(h97:sp 166=none)(c:nS s o po pl ps m last seen){r:ae}(D:r.length<small):
 aq (QS sp) 166 [.str r,.ptr po 0,.ptr pl 0,.ptr ps 0] s (.bool (DY o.Al last seen r)) (nS.aL s pl m seen r):=by
 have w:=A8 D;have h:=asz HJ wX D1 c.hm r;rw[asx] at h;have i:=aze HJ wX c.hm r (.bool true);rw[XO] at i;have j:=c.ho;have p:=c.hl;have q:=c.hs;have G:=c.d1;refine lg Ix.1 Ix.2 Ix.3 Ix.4 h97 ?_;refine bn ?_;simp only[aR,fP,fH,aA,bH,cz];refine bn ?_;have d: ∀e b,ac e 0= .str r->ac e 1= .ptr po 0->ac e 2= .ptr pl 0->ac e 3= .ptr ps 0->ac e 6= .bool b->b=((an o.Al 2&&(r==last))||(an o.Al 3&&seen.contains r))->W (QS sp) 166 (.seq (.region ao4) (.seq (.region ao5) .ret)) ⟨e,34,[]⟩ s fun x y z=>z=nS.aL s pl m seen r/\(x= .normal\/x= .ret)/\ ∃vs,iE (QS sp) [] y z [.tmp 5]=some vs/\nK vs= .bool (DY o.Al last seen r):=by
  intro e b C H F E B A;refine bn ?_;simp only[aR,jM,eR,cQ,bL,ai,aA,cz,Dt,aP,aQ,cS,cV,aU,C,F,E,q,p,i,G];refine bn ?_;cases b with
  |true=>
   simp only[aR,ai,aA,B];refine dZ ⟨rfl,.inr rfl,dD ?_ rfl⟩;simp only[aV,ai, *];simp only[DY,<-A,jH]
  |false=>
   simp only[aR,ai,aA,C,B,h94,w];refine dZ ⟨rfl,.inr rfl,dD ?_ rfl⟩;simp only[aV,ai, *];simp only[DY,<-A,jV]
 cases hk2:an o.Al 2 with
 |true=>
  cases he:r==last with
  |true=>
   simp only[aR,bL,ai,aA,jn,gK,oS,aP,aQ,j,p,Obj.cells,hk2,he];refine d _ true ?_ ?_ ?_ ?_ ?_ (by simp only[hk2,he,bX,jH])<;>simp only[aV,ai, *]
  |false=>
   cases hk3:an o.Al 3 with
   |true=>
    simp only[aR,bL,ai,aA,jn,gK,Dt,oS,aP,aQ,j,q,p,Obj.cells,hk2,he,hk3,h];refine d _ (seen.contains r) ?_ ?_ ?_ ?_ ?_ (by simp only[hk2,he,hk3,gA,jV,eC])<;>simp only[aV,ai, *]
   |false=>
    simp only[aR,bL,ai,aA,jn,gK,oS,aP,aQ,j,p,Obj.cells,hk2,he,hk3];refine d _ false ?_ ?_ ?_ ?_ ?_ (by simp only[hk2,he,hk3,gA,jV,dL])<;>simp only[aV,ai, *]
 |false=>
  cases hk3:an o.Al 3 with
  |true=>
   simp only[aR,bL,ai,aA,jn,Dt,oS,aP,aQ,j,q,Obj.cells,hk2,hk3,h];refine d _ (seen.contains r) ?_ ?_ ?_ ?_ ?_ (by simp only[hk2,hk3,dL,jV,eC])<;>simp only[aV,ai, *]
  |false=>
   simp only[aR,bL,ai,aA,jn,oS,aP,aQ,j,Obj.cells,hk2,hk3];refine d _ false ?_ ?_ ?_ ?_ ?_ (by simp only[hk2,hk3,jV,dL])<;>simp only[aV,ai, *]
end
def aq.ofEx{Q:aF}{f:FuncId}{fn:Func}{j:SC}{rs:List ResultVar}{R:aa->St->Prop}(y:Q.P.funcs[f]? =some fn)(z:fn.body.map dY=some j)(w:fn.ntmps=n)(q:fn.results.toList=rs)(i:Q.spec f=none)(h:W Q f j (fP n args) s fun x c d=>(x= .normal\/x= .ret)/\ ∃v,(∃vs,iE Q [] c d rs=some vs/\nK vs=v)/\R v d)(B:Q.specH f=none:=by rfl)(A:Q.specW f=none:=by rfl): ∃v p,aq Q f args s v p/\R v p:=by
 obtain⟨x,c,d,F,E,v,D,C⟩:=h;exact⟨v,d,lg y z w q i ⟨x,c,d,F,rfl,E,D⟩ B A,C⟩
def pD(Al:Int):ae->List ae->List ae->Bool
 |_,_,[]=>false
 |last,seen,r::rs=>DY Al last seen r||pD Al r (Ah r seen) rs
def B7(po pl ps:Nat):aa:=.func (.func 166) [] [.ptr po 0,.ptr pl 0,.ptr ps 0]
def VG(po pl ps:Nat):(B7 po pl ps).ge=true:=rfl
variable{l:List ae}
section
variable{sp:gQ}(h94:sp 163=some kY)(h97:sp 166=none)
include h94 h97
theorem anR(H:au 1 ax v l)(R: ∀r∈l,r.length<small)(B:l.length<small): ∀(j d:List ae) (e:aw) (lc:Ag.Loc) (s:St) (last:ae) (seen:List ae),l=d++j->nS s o po pl ps m last seen->
 ac e 0=v->ac e 1=B7 po pl ps->ac e 7= .int .i64 (l.length:Nat)->ac e 8= .int .i64 (d.length:Nat)->
 W (QS sp) 261 (.loop IL) ⟨e,19,lc⟩ s fun x fr G=>(∃w q,nS G o po pl ps m w q)/\G.ci=s.ci/\fr.size=19/\((x= .exit 0/\pD o.Al last seen j=false)\/(x= .ret/\(∃i:Nat,ac fr.env 4= .int .i64 (i:Int))/\pD o.Al last seen j=true)):=by
 intro j
 induction j with
 |nil=>
  intro d e lc s last seen p c J I F A;have y:l.length=d.length:=by rw[p];simp
  refine jL ?_;refine bn ?_;simp only[aR,aA,F,A,y,cq];refine cC (W.cnFZ ?_);exact W.exit ⟨⟨last,seen,c⟩,rfl,rfl,.inl ⟨rfl,rfl⟩⟩
 |cons r j K=>
  intro d e lc s last seen p c J I F A;have D:d.length<l.length:=by rw[p];simp
  have z:l[d.length]? =some r:=by rw[p];simp
  have E:=fun lc=>H.at bT.2.2.1 z lc .i64;have S:=H.ge;have O:=R r (dM z);have M:=gV;have C:=ug (n:=d.length) (by omega);refine jL ?_;refine bn ?_;simp only[aR,aA,F,A,D];refine cC (li (kO ?_));refine cC (jq ?_);refine bn ?_;simp only[aR,ai,aA,A];refine cC (W.region (LJ 5 ?_));simp only[aR,cQ,bL,ai,aA,gK,J,I,E,ax];refine LI (g:=166) (args:=[.str r,.ptr po 0,.ptr pl 0,.ptr ps 0]) ?_ (azH h94 h97 c O) (by decide) ?_;simp only[aR,callee,B7,ai];refine LH ?_;simp only[Eh,fe];cases hw:DY o.Al last seen r with
  |true=>
   refine li (bn ?_);simp only[aR,ai,aA];refine dZ ⟨⟨_,_,c.after r⟩,rfl,rfl,.inr ⟨rfl,⟨d.length,?_⟩,by simp[pD,hw]⟩⟩;simp only[aV,ai, *]
  |false=>
   refine lh ?_;simp only[qA,fe];refine W.reg ?_;simp only[aR,ie,ai,aA,A,C];refine(K (d++[r]) _ _ _ r (Ah r seen) (by rw[p];simp) (c.after r) (by simp only[dc,ai, *]) (by simp only[dc,ai, *]) (by simp only[dc,ai, *]) (by simp only[aV,kS,ai])).mono ?_;simp only[pD,hw,jV];exact fun _ _ _ h=>h
theorem anS(h157:sp 261=none)(B:au 1 ax v l)(G: ∀r∈l,r.length<small)(d:l.length<small)(c:nS s o po pl ps m last seen):
 ∃u y,aq (QS sp) 261 [v,B7 po pl ps] s u y/\((∃j h,nS y o po pl ps m j h)/\y.ci=s.ci/\ ∃z:Int,u= .int .i64 z/\b9 0 z=pD o.Al last seen l):=by
 have q:=fun F s=>B.lenS bT F s;have C:=B.ge;refine aq.ofEx Fj.1 Fj.2 Fj.3 Fj.4 h157 ?_;refine bn ?_;simp only[aR,fP,fH,aA,bH,cz];refine cC (bn ?_);simp only[aR,ai,aA,C,q];refine jq ?_;refine(anR h94 h97 B G d l [] _ _ s last seen rfl c (by simp only[aV,ai, *]) (by simp only[aV,ai, *]) (by simp only[aV,ai, *]) (by simp only[aV,ai];rfl)).mono ?_;rintro x ⟨e,E,I⟩ y ⟨D,w,A,⟨rfl,p⟩|⟨rfl,⟨i,H⟩,p⟩⟩;have A:E=19:=A;subst A;show W (QS sp) 261 _ _ _ _;refine bn ?_;simp only[gY,nH,aA];refine dZ ⟨.inr rfl,.int .i64 (-1),dD ?_ rfl,D,w, -1,rfl,by rw[p];rfl⟩;simp only[iQ,ai,cT, *];exact⟨.inr rfl,.int .i64 i,dD H rfl,D,w,i,rfl,by rw[p];simp[b9]⟩
theorem alZ(h157:sp 261=none)(h98:sp 167=none)(w:au 1 ax v l)(A: ∀r∈l,r.length<small)(d:l.length<small)(c:nS s o po pl ps m last seen):
 ∃u j,aq (QS sp) 167 [v,B7 po pl ps] s u j/\((∃i h,nS j o po pl ps m i h)/\j.ci=s.ci/\u= .bool (pD o.Al last seen l)):=by
 obtain⟨u,C,y,B,q,z,rfl,x⟩:=anS h94 h97 h157 w A d c;have p:=w.ge;refine aq.ofEx E8.1 E8.2 E8.3 E8.4 h98 ?_;refine bn ?_;simp only[aR,fP,fH,aA,bH,cz];refine cC (W.region (LJ 2 ?_));simp only[aR,cQ,bL,ai,aA];refine LI (g:=261) ?_ y (by decide) ?_;simp only[aR,callee,p,VG,ai];refine LH ?_;simp only[aR,ie,ai,aA,x];refine dZ ⟨.inr rfl,_,dD (v:=.bool (pD o.Al last seen l)) ?_ rfl,B,q,rfl⟩;simp only[aV,ai, *]
end
def od(o:Obj):Bool:=(pm o.Al== [])|| !jA o.id|| !lZ o.uP||decide (o.gT.length<tQ o.Al)||decide (2000<o.gT.length)
def DZ(o:Obj):Bool:=an o.x 0&&an o.y 0
def fR(o:Obj):Bool:=bif od o then false else bif pD o.Al [] [] o.gT then false else bif an o.Al 1 then(o.gT.length==0)&&qX o.x o.y else bif an o.Al 5 then(o.gT.length==3)&&DZ o else DZ o
def LY(P:Program)(t:TypeId)(a b:List aa):dz P .eql t (.agg a) (.agg b)=(wA P t (.agg a) (.agg b)).bind fun b=>some (.bool b):=rfl
def age(P:Program)(t:TypeId)(a b:List aa):dz P .neq t (.agg a) (.agg b)=(wA P t (.agg a) (.agg b)).bind fun b=>some (.bool !b):=rfl
def Ri(a b c d:Int):dz ah .eql 49 (.agg [.int .i64 a,.int .i64 b]) (.agg [.int .i64 c,.int .i64 d])=some (.bool (bif an a c then bif an b d then true else false else false)):=by
 have h:wA ah 49 (.agg [.int .i64 a,.int .i64 b]) (.agg [.int .i64 c,.int .i64 d])=(some (an a c)).bind fun r=>bif r then(some (an b d)).bind fun r=>bif r then some true else some false else some false:=by kernel_rfl
 rw[LY,h];cases an a c<;>cases an b d<;>rfl
def acB(a b:Int):(bif an a 0 then bif an b 0 then true else false else false)=(an a 0&&an b 0):=by
 cases an a 0<;>cases an b 0<;>rfl
def azB(h:(pm k== [])=false):(b9 0 k&&aX k 6)=true:=by
 by_cases h1:0<=k/\k<6;simp[b9,aX,h1.1,h1.2];have c:pm k=[]:=by
  simp only[pm,rZ (show k≠1 by omega),rZ (show k≠2 by omega),rZ (show k≠3 by omega),rZ (show k≠4 by omega),rZ (show k≠5 by omega),cF]
 rw[c] at h;cases h
def Cu(s:St)(mk:aH)(n:Nat):s.top.get mk n=s.get mk n:=rfl
def arI(h:(b9 0 k&&aX k 6)=true):CR [.int .i64 k]=some (.int .i64 (tQ k:Nat)):=by
 simp only[CR,h,cT]
section
variable{sp:gQ}(h93:sp 162=some GK)(h94:sp 163=some kY)(h95:sp 164=some DS)(h96:sp 165=some CR)(h99:sp 168=some FY)(h97:sp 166=none)(h98:sp 167=none)(h157:sp 261=none)
include h93 h94 h95 h96 h99 h97 h98 h157
theorem atW(h48:sp 75=none)(z:o.Ok): ∃v A,aq (QS sp) 75 [o.val] s0 v A/\(v= .bool (fR o)/\A.ci=0):=by
 have q:=A8 z.id;have B:=ayn z.uP z.taglen z.key;have p:GK [.int .i64 o.Al]=some (.str (pm o.Al)):=rfl;have i:=fun mk s=>z.gT.lenS bT mk s;have j:=z.gT.ge;have C:=z.uP.ge;refine aq.ofEx Js.1 Js.2 Js.3 Js.4 h48 ?_;refine bn ?_;simp only[aR,fP,fH,aA,cz,N6,Obj.val];have V:s0.aL=0:=rfl;have T: ∃w,s0.new (.cells o.cells)=w/\w.get [] 0=some (.cells o.cells)/\w.gE<=w.aL/\w.aL=1/\w.ci=0:=⟨_,rfl,by rw[eN];rfl,Nat.zero_le _,rfl,rfl⟩;obtain⟨w,e1,F,m1,O,H⟩:=T;rw[e1,V];refine cC (W.sdrawQ m1 ?_);have fin: ∀e Y,ac e 36= .bool true->W (QS sp) 75 (.cond (aC 36) (.seq (.region arq) .ret) .skip) ⟨e,72,Y⟩ w fun x fr A=>x= .ret/\A=w/\ac fr.env 2= .bool false:=by
  intro e Y h;refine ib (t:=true) (by simp only[dA,h]) (bn ?_);simp only[gY,pd,aA];exact dZ ⟨rfl,rfl,by simp only[iQ,ai,cT, *]⟩
 cases hb1:pm o.Al== [] with
 |true=>
  simp only[aR,isStore,bL,ai,aA,jn,oS,aP,aQ,Cu,F,Obj.cells,h93,p,hb1];refine(fin _ _ ?_).mono ?_;simp only[aV,ai, *];rintro x fr A ⟨rfl,rfl,h⟩;exact⟨.inr rfl,_,dD h rfl,by simp[fR,od,hb1],H⟩
 |false=>
 have hk:=azB hb1;have E:=arI hk;cases hb2:jA o.id with
 |false=>
  simp only[aR,isStore,bL,ai,aA,jn,gK,qH,oS,aP,aQ,Cu,F,Obj.cells,h93,p,hb1,h94,q,hb2];refine(fin _ _ ?_).mono ?_;simp only[aV,ai, *];rintro x fr A ⟨rfl,rfl,h⟩;exact⟨.inr rfl,_,dD h rfl,by simp[fR,od,hb2],H⟩
 |true=>
 cases hb3:lZ o.uP with
 |false=>
  simp only[aR,isStore,bL,ai,aA,jn,gK,rh,qH,oS,qI,aP,aQ,Cu,F,Obj.cells,h93,p,hb1,h94,q,hb2,h95,B,C,hb3];refine(fin _ _ ?_).mono ?_;simp only[aV,ai, *];rintro x fr A ⟨rfl,rfl,h⟩;exact⟨.inr rfl,_,dD h rfl,by simp[fR,od,hb3],H⟩
 |true=>
 cases hb4:decide (o.gT.length<tQ o.Al) with
 |true=>
  simp only[aR,isStore,bL,ai,aA,jn,gK,mP,rh,qH,oS,mz,qI,aP,aQ,Cu,F,Obj.cells,h93,p,hb1,h94,q,hb2,h95,B,C,hb3,j,i,h96,E,hb4];refine(fin _ _ ?_).mono ?_;simp only[aV,ai, *];rintro x fr A ⟨rfl,rfl,h⟩;exact⟨.inr rfl,_,dD h rfl,by simp[fR,od,hb4],H⟩
 |false=>
 have I:aX 2000 (o.gT.length:Nat)=decide (2000<o.gT.length):=yG 2000 _;cases hb5:decide (2000<o.gT.length) with
 |true=>
  simp only[aR,isStore,bL,ai,aA,jn,gK,mP,rh,qH,oS,mz,qI,aP,aQ,Cu,F,Obj.cells,h93,p,hb1,h94,q,hb2,h95,B,C,hb3,j,i,h96,E,hb4,I,hb5];refine(fin _ _ ?_).mono ?_;simp only[aV,ai, *];rintro x fr A ⟨rfl,rfl,h⟩;exact⟨.inr rfl,_,dD h rfl,by simp[fR,od,hb5],H⟩
 |false=>
 have c:od o=false:=by simp only[od,hb1,hb2,hb3,hb4,hb5];rfl
 simp only[aR,isStore,bL,ai,aA,jn,gK,mP,rh,qH,oS,mz,qI,aP,aQ,Cu,F,Obj.cells,h93,p,hb1,h94,q,hb2,h95,B,C,hb3,j,i,h96,E,hb4,I,hb5];refine lh ?_;simp only[fe];refine bn ?_;simp only[aR,jM,eR,cQ,bL,ai,aA,bH,cz,N6,mJ,cS,eN,Qx,O,cV,aa.cells];refine bn ?_;simp only[aR,jM,eR,cQ,bL,ai,aA,bH,cz,N6,cS,eN,aU,Qx,mL,O,cV];refine bn ?_;simp only[aR,ai,aA,nC];have S: ∃K,((((w.new (.map [] 0)).new (.cells [.nilm])).put 2 (some (.cells [.map 1]))).new (.cells [.str []])).put 3 (some (.cells [.str []]))=K/\nS K o 0 3 2 1 [] []/\K.ci=0:=by
  refine⟨_,rfl,⟨?_,?_,?_,?_,rfl,rfl,rfl,rfl,rfl,rfl⟩,H⟩<;>simp only[eN,aU,Qx,mL,O,F,ai,bH,cT,cF]<;>rfl
 obtain⟨K,e2,D,c2⟩:=S;rw[e2];obtain⟨u,s3,hr,⟨R,M,c3⟩,d,rfl⟩:=alZ h94 h97 h157 h98 z.gT z.ref z.reflen D;have g2:=D.ho;have G:=c3.ho;have d:s3.ci=0:=d.trans c2;have J:aa.func (.func 166) [] [.ptr 0 0,.ptr 3 0,.ptr 2 0]=B7 0 3 2:=rfl;rw[J];refine cC (cC (W.region (LJ 3 ?_)));simp only[aR,cQ,bL,ai,aA,mP,mz,aP,aQ,g2,Obj.cells];refine LI (g:=167) ?_ hr (by decide) ?_;simp only[aR,j,VG,ai];refine LH ?_;simp only[Eh,fe];cases hw:pD o.Al [] [] o.gT with
 |true=>
  refine li (bn ?_);simp only[gY,pd,aA];refine dZ ⟨.inr rfl,_,dD (v:=.bool false) ?_ rfl,?_,d⟩;simp only[aV,ai, *];simp[fR,c,hw]
 |false=>
 refine lh ?_;simp only[fe];refine cC (bn ?_);simp only[aR,bL,ai,aA,jn,oS,aP,aQ,G,Obj.cells];refine jq (bn ?_);simp only[aR,ai,aA];have e0:an (o.gT.length:Int) 0=(o.gT.length==0):=AN _ 0;have Z:an (o.gT.length:Int) 3=(o.gT.length==3):=AN _ 3;cases hk1:an o.Al 1 with
 |true=>
  refine li (bn ?_);have U:FY [.agg [.int .i64 o.x,.int .i64 o.y]]=some (.bool (qX o.x o.y)):=rfl;cases hz:o.gT.length==0 with
  |true=>
   simp only[aR,cut,cQ,bL,ai,aA,bH,mP,Du,Cl,mz,aP,aQ,G,Obj.cells,j,i,e0,hz,h99,U];refine dZ ⟨.inr rfl,_,dD (v:=.bool (qX o.x o.y)) ?_ rfl,?_,d⟩;simp only[aV,ai, *];simp[fR,c,hw,hk1,hz]
  |false=>
   simp only[aR,bL,ai,aA,mP,mz,aP,aQ,G,Obj.cells,j,i,e0,hz];refine dZ ⟨.inr rfl,_,dD (v:=.bool false) ?_ rfl,?_,d⟩;simp only[aV,ai, *];simp[fR,c,hw,hk1,hz]
 |false=>
  refine W.cnFZ (bn ?_);simp only[aR,ai,aA];cases hk5:an o.Al 5 with
  |true=>
   refine li (bn ?_);cases hz:o.gT.length==3 with
   |true=>
    simp only[aR,jM,cut,cQ,bL,ai,aA,bH,Em,mP,Du,Cl,mz,aP,aQ,G,Obj.cells,j,i,Z,hz,aZ,Ri,acB];refine dZ ⟨.inr rfl,_,dD (v:=.bool (an o.x 0&&an o.y 0)) ?_ rfl,?_,d⟩;simp only[aV,ai, *];simp[fR,c,hw,hk1,hk5,hz,DZ]
   |false=>
    simp only[aR,bL,ai,aA,mP,mz,aP,aQ,G,Obj.cells,j,i,Z,hz];refine dZ ⟨.inr rfl,_,dD (v:=.bool false) ?_ rfl,?_,d⟩;simp only[aV,ai, *];simp[fR,c,hw,hk1,hk5,hz]
  |false=>
   refine lh ?_;simp only[qA,fe];refine bn ?_;simp only[aR,jM,cut,cQ,bL,ai,aA,bH,Em,Du,Cl,aP,aQ,G,Obj.cells,aZ,Ri,acB];refine dZ ⟨.inr rfl,_,dD (v:=.bool (an o.x 0&&an o.y 0)) ?_ rfl,?_,d⟩;simp only[aV,ai, *];simp[fR,c,hw,hk1,hk5,DZ]
end
def DH:List ae->Bool
 | []=>true
 |t::l=>bh t.length small&&DH l
def adz: ∀ {l:List ae},DH l=true-> ∀t∈l,t.length<small
 | [],_,_,h=>by cases h
 |a::l,h,t,c=>by
  simp only[DH,bq] at h;rcases dG.1 c with rfl|c
  exact fF h.1;exact adz h.2 t c
def adA: ∀ {l:List ae},(∀t∈l,t.length<small)->DH l=true
 | [],_=>rfl
 |a::l,h=>by
  simp only[DH,bq];exact⟨cN (h a (by simp)),adA fun t c=>h t (by simp[c])⟩
def JF(id:ae)(k x y:Int)(rv d:aa)(rs:List ae)(c:List fO):Option Obj:=
 bif bG rv&&bG d&&bh id.length small&&bh rs.length small&&DH rs&&bh c.length small&&Bt c then some ⟨id,k,x,y,rv,d,rs,c⟩ else none
def v9:aa->Option Obj
 | .agg [.str id,.int .i64 k,.int .i64 x,.int .i64 y,rv,tv]=>(dW 1 gG rv).bind fun d=>(dW 2 uH tv).bind fun c=>JF id k x y rv tv d c
 |_=>none
structure Obj.AL (o:Obj):Prop extends o.Ok where
 pr:bG o.refsV=true
 pt:bG o.tagsV=true
def Hm(h:v9 v=some o):v=o.val/\o.AL:=by
 unfold v9 at h;split at h;simp only[ak] at h;obtain⟨B,z,A,y,h⟩:=h;unfold JF at h;obtain⟨c,h⟩:=bc h;simp only[bq] at c;obtain⟨⟨⟨⟨⟨⟨x,w⟩,q⟩,p⟩,j⟩,i⟩,d⟩:=c;injection h with h
 subst h;exact⟨rfl,⟨⟨ig (fun v a=>kQ) z,ig (fun v a=>L9) y,fF q,fF p,adz j,fF i,RT d⟩,x,w⟩⟩;cases h
def UE(h:o.AL):v9 o.val=some o:=by
 show((dW 1 gG o.refsV).bind fun d=>(dW 2 uH o.tagsV).bind fun c=>JF o.id o.Al o.x o.y o.refsV o.tagsV d c)=_;rw[kT kF h.gT,bk,kT Ma h.uP,bk];unfold JF;have p:bh o.id.length small=true:=cN h.id;have j:bh o.gT.length small=true:=cN h.reflen;have i:bh o.uP.length small=true:=cN h.taglen;rw[h.pr,h.pt,p,j,i,adA h.ref,RU h.key];rfl
def Obj.AL.pure(h:o.AL):bG o.val=true:=by
 simp only[Obj.val,Obj.cells,bG,pures,h.pr,h.pt,bX]
mutual
def Sw: ∀ {v:aa},bG v=true->dy v=true
 | .agg cs,h=>by simp only[dy];exact vH (by simpa only[bG] using h)
 | .tup cs,h=>by simp only[dy];exact vH (by simpa only[bG] using h)
 | .list _ xs r,h=>by
   simp only[bG,bq] at h;simp only[dy];exact h.1
 | .bool _,_=>rfl
 | .int _ _,_=>rfl
 | .str _,_=>rfl
 | .nilp,_=>rfl
 | .ptr _ _,h=>by simp[bG] at h
 | .Gt _ _ _,h=>by simp[bG] at h
 | .ro cs,h=>by simpa only[dy] using h
 | .Ge,_=>rfl
 | .arr _ _ _ _ _,h=>by simp[bG] at h
 | .nilm,_=>rfl
 | .map _,h=>by simp[bG] at h
 | .nilf,_=>rfl
 | .func _ _ _,h=>by simpa only[dy] using h
 | .nili,_=>rfl
 | .iface _ _,h=>by simpa only[dy] using h
def vH: ∀ {l:List aa},pures l=true->dK l=true
 | [],_=>rfl
 |v::l,h=>by
  simp only[pures,bq] at h;simp only[dK,Sw h.1,vH h.2,bX]
end
def FT:Sp
 | [v]=>(v9 v).bind fun o=>some (.bool (fR o))
 |_=>none
def atR(h:o.AL):FT [o.val]=some (.bool (fR o)):=by
 show(v9 o.val).bind _=_;rw[UE h];rfl
def atS:cL ah 75 FT:=by
 intro args u c G h w j p q;unfold FT at c;split at c;rename_i v;simp only[ak,aM] at c;obtain⟨o,z,rfl⟩:=c;obtain⟨rfl,d⟩:=Hm z;obtain⟨v,s',y,rfl,i⟩:=atW (sp:=fun f=>gg f T4) rfl rfl rfl rfl rfl rfl rfl rfl rfl d.toOk;have x:dj [o.val]=[o.val]:=kw (by simp only[pures,d.pure,bX]);refine mT (Q:=QT T4) (mE TE) (fun _=>nf 1) (args:=[o.val]) (v:=.bool (fR o)) (s':=s') ?_ (by rw[x];exact y) i ⟨1,rfl⟩ G h w j p q;exact vH (by simp only[pures,d.pure,bX]);cases c
def nG:ae->List Obj->Bool
 |_,[]=>true
 |last,o::r=>bif !fR o||Ag.leBytes o.id last then false else nG o.id r
def cM(l:List Obj):Bool:=nG [] l&&decide (l.length<=1000000)
variable{l:List Obj}
section
variable{sp:gQ}(h48:sp 75=some FT)
include h48
theorem asF(K:au 6 Obj.val v l)(S: ∀o∈l,o.AL)(A:l.length<small): ∀(c d:List Obj) (e:aw) (lc:Ag.Loc) (last:ae),l=d++c->
 ac e 1= .Gt 1 1 0->lc.gen 1=1->lc.get 1 1=some [v]->ac e 7=v->ac e 8= .int .i64 (l.length:Nat)->ac e 9= .int .i64 (d.length:Nat)->ac e 3= .str last->
 W (QS sp) 31 (.loop aqk) ⟨e,29,lc⟩ s fun x fr p=>p=s/\fr.size=29/\((x= .exit 0/\ac fr.env 1= .Gt 1 1 0/\fr.loc.gen 1=1/\fr.loc.get 1 1=some [v]/\nG last c=true)\/(x= .ret/\ac fr.env 2= .bool false/\nG last c=false)):=by
 intro c
 induction c with
 |nil=>
  intro d e lc last i U F G M H z I;have w:l.length=d.length:=by rw[i];simp
  refine jL ?_;refine bn ?_;simp only[aR,aA,H,z,w,cq];refine cC (W.cnFZ ?_);refine W.exit ⟨rfl,rfl,.inl ⟨rfl,?_,F,G,rfl⟩⟩;simp only[dc,ai, *]
 |cons o c O=>
  intro d e lc last i U F G M H z I;have D:d.length<l.length:=by rw[i];simp
  have y:l[d.length]? =some o:=by rw[i];simp
  have E:=fun lc=>K.at eO.2.2.1 y lc .i64;have T:=K.ge;have j:=atR (S o (dM y));have R:=gV;have B:=ug (n:=d.length) (by omega);simp only[Obj.val,Obj.cells] at j;refine jL ?_;refine bn ?_;simp only[aR,aA,H,z,D];refine cC (li (kO ?_));simp only[fe];refine cC (jq ?_);refine bn ?_;simp only[aR,jM,cut,eR,cQ,bL,ai,aA,bH,cz,zi,Xq,M,z,E,Obj.val,Obj.cells];refine cC (bn ?_);have fin: ∀J q,ac J 21= .bool true->W (QS sp) 31 (.cond (aC 21) (.seq (.region aql) .ret) .skip) ⟨J,29,q⟩ s fun x fr p=>x= .ret/\p=s/\fr.size=29/\ac fr.env 2= .bool false:=by
   intro J q h;refine ib (t:=true) (by simp only[dA,h]) (bn ?_);simp only[gY,pd,aA];exact dZ ⟨rfl,rfl,rfl,by simp only[iQ,ai,cT, *]⟩
  cases hb1:fR o with
  |false=>
   simp only[aR,cut,cQ,bL,ai,aA,bH,zi,h48,j,hb1];refine(fin _ _ ?_).mono ?_;simp only[aV,ai, *];rintro x fr p ⟨rfl,rfl,C,h⟩;exact⟨rfl,C,.inr ⟨rfl,h,by simp[nG,hb1]⟩⟩
  |true=>
  cases hb2:Ag.leBytes o.id last with
  |true=>
   simp only[aR,cut,cQ,bL,ai,aA,bH,gK,zi,qH,h48,j,hb1,hb2,I];refine(fin _ _ ?_).mono ?_;simp only[aV,ai, *];rintro x fr p ⟨rfl,rfl,C,h⟩;exact⟨rfl,C,.inr ⟨rfl,h,by simp[nG,hb2]⟩⟩
  |false=>
   simp only[aR,cut,cQ,bL,ai,aA,bH,gK,zi,qH,h48,j,hb1,hb2,I];refine lh ?_;simp only[fe];refine W.reg ?_;simp only[aR,ie,bL,ai,aA,gK,qH];refine W.reg ?_;simp only[aR,ie,ai,aA,z,B];refine(O (d++[o]) _ _ o.id (by rw[i];simp) (by simp only[dc,ai, *]) (by simp only[fQ,ai,cF,F]) (by simp only[f7,ai,cF,G]) (by simp only[dc,ai, *]) (by simp only[dc,ai, *]) (by simp only[aV,kS,ai]) (by simp only[aV,ai, *])).mono ?_;simp only[nG,hb1,hb2,lD,jV,cF];exact fun _ _ _ h=>h
theorem asJ(y:sp 31=none)(p:au 6 Obj.val v l)(D: ∀o∈l,o.AL)(c:l.length<small)(s:St):aq (QS sp) 31 [.agg [v]] s (.bool (cM l)) s:=by
 have d:=fun C s=>p.lenS eO C s;have i:=p.ge;refine lg IY.1 IY.2 IY.3 IY.4 y ?_;refine bn ?_;simp only[aR,fP,fH,aA,cz,Xq];refine bn ?_;simp only[gY,FV,aA];refine cC (bn ?_);simp only[aR,bL,ai,aA,xr,wB,i,d];refine jq ?_;refine(asF h48 p D c l [] _ _ [] rfl (by simp only[aV,ai, *]) (by simp only[uY,fQ,ai,cT]) (by simp only[f7,ai,cT]) (by simp only[aV,ai, *]) (by simp only[aV,ai, *]) (by simp only[aV,ai];rfl) (by simp only[aV,ai, *])).mono ?_;rintro x ⟨e,B,A⟩ F ⟨rfl,j,⟨rfl,z,q,w,h⟩|⟨rfl,E,h⟩⟩;have j:B=29:=j;subst j;have z:ac e 1= .Gt 1 1 0:=z;have q:A.gen 1=1:=q;have w:A.get 1 1=some [v]:=w;show W (QS sp) 31 _ _ _ _;refine bn ?_;simp only[aR,bL,ai,aA,xr,wB,z,q,w,i,d];refine dZ ⟨rfl,.inr rfl,dD ?_ rfl⟩;simp only[aV,ai,cM,h,eC];exact congrArg aa.bool (H4 l.length 1000000);exact⟨rfl,.inr rfl,dD (by rw[E];simp[cM,h]) rfl⟩
end
def jO:aa->Option (List Obj)
 | .agg [v]=>(dW 6 v9 v).bind fun l=>bif bh l.length small then some l else none
 |_=>none
def aar: ∀ {xs:List aa} {l:List Obj},ij v9 xs=some l->(∀o∈l,o.AL)
 | [],l,h=>by simp only[ij,aM] at h;subst h;intro o c;cases c
 |x::xs,l,h=>by
  simp only[ij,ak,aM] at h;obtain⟨a,i,r,d,rfl⟩:=h;intro o c;rcases dG.1 c with rfl|c
  exact(Hm i).2;exact aar d o c
def aas: ∀ {l:List Obj},(∀o∈l,o.AL)->ij v9 (l.map Obj.val)=some l
 | [],_=>rfl
 |o::l,h=>by
  have c:=aas (l:=l) fun o d=>h o (List.mem_cons_of_mem _ d);simp only[eT,ij,UE (h o List.mem_cons_self),bk,c]
variable{u:aa}
def nX(h:jO u=some l): ∃v,u= .agg [v]/\au 6 Obj.val v l/\(∀o∈l,o.AL)/\l.length<small:=by
 unfold jO at h;split at h;rename_i v;simp only[ak] at h;obtain⟨j,c,h⟩:=h;obtain⟨i,h⟩:=bc h;injection h with h;subst h
 refine⟨v,rfl,ig (fun v a h=>(Hm h).1) c,?_,fF i⟩;unfold dW at c;split at c;injection c with c;subst c;intro o d;cases d
 obtain⟨_,c⟩:=bc c;exact aar c;cases c;cases h
def qv(h:au 6 Obj.val v l)(d: ∀o∈l,o.AL)(c:l.length<small):jO (.agg [v])=some l:=by
 have:dW 6 v9 v=some l:=by
  rcases h with⟨rfl,rfl⟩|⟨r,rfl⟩
  rfl;simp only[fc,dW,aas d]
 have q:bh l.length small=true:=cN c;simp only[dX,jO,this,q]
def Ke(h: ∀o∈l,o.AL):pures (l.map Obj.val)=true:=by
 rw[Bj];intro v c;obtain⟨o,d,rfl⟩:=List.mem_map.1 c;exact(h o d).pure
def o9(h:au 6 Obj.val v l)(d: ∀o∈l,o.AL):dy (.agg [v])=true/\ ∃c,cu (.agg [v])= .agg [c]/\au 6 Obj.val c l:=by
 rcases h with⟨rfl,rfl⟩|⟨r,rfl⟩
 exact⟨rfl,.Ge,rfl,.inl ⟨rfl,rfl⟩⟩;refine⟨by simp only[dy,dK,Ke d,bX],.list 6 (l.map Obj.val) (match r with| .own _=>.no|r=>r),?_,.inr ⟨_,rfl⟩⟩;simp only[cu,dj,kw (Ke d)];cases r<;>rfl
def im:Sp
 | [v]=>(jO v).bind fun l=>some (.bool (cM l))
 |_=>none
def wT(h:au 6 Obj.val v l)(d: ∀o∈l,o.AL)(c:l.length<small):im [.agg [v]]=some (.bool (cM l)):=by
 simp only[im,qv h d c,bk]
def T5:df:=(75,FT)::T4
def aff:dl T5:=.cons atS TE
def tT:cL ah 31 im:=by
 intro args u c G h w q x z;unfold im at c;split at c;rename_i v;simp only[ak,aM] at c;obtain⟨l,j,rfl⟩:=c;obtain⟨v,rfl,j,p,B⟩:=nX j;obtain⟨A,y,d,i⟩:=o9 j p;have d:dj [.agg [v]]=[.agg [y]]:=by simp only[dj,d]
 exact mT (Q:=QT T5) (mE aff) (fun _=>nf 1) (args:=[.agg [v]]) (v:=.bool (cM l)) (s':=s0) (by simp only[dK,A,bX]) (by rw[d];exact asJ (sp:=fun f=>gg f T5) rfl rfl i p B s0) rfl ⟨1,rfl⟩ G h w q x z;cases c
def vt:List ae->Bool
 | []=>true
 |r::l=>bif decide (60<r.length) then false else vt l
def aeb(t:fO):Bool:=aX 300 (IntKind.i64.wrap ((t.1.length:Int)+(t.2.length:Int)))
def vG:List fO->Bool
 | []=>true
 |t::l=>bif aeb t then false else vG l
def xe(o:Obj):Bool:=decide (12<o.gT.length)||decide (20<o.uP.length)||decide (60<o.id.length)
def o8:List Obj->Bool
 | []=>true
 |o::l=>bif xe o then false else bif vt o.gT then bif vG o.uP then o8 l else false else false
def oU(l:List Obj)(n:Int):Bool:=bif aX n (l.length:Nat) then false else o8 l
structure G9 (v:aa) (o:Obj) (i g:Nat) (e:aw) (lc:Ag.Loc):Prop where
 h2:ac e 2= .Gt 2 1 0
 g2:lc.gen 2=1
 b2:lc.get 2 1=some [v]
 h6:ac e 6= .Gt 6 g 0
 g6:lc.gen 6=g
 b6:lc.get 6 g=some o.cells
 h5:ac e 5= .int .i64 (i:Nat)
section
variable{sp:gQ}
def akh(z:o.Ok){i:Nat}{lc:Ag.Loc}: ∀(c d:List ae) (e:aw),o.gT=d++c->G9 v o i g e lc->ac e 7= .int .i64 (d.length:Nat)->
 W (QS sp) 33 (.loop aqw) ⟨e,79,lc⟩ s fun x fr K=>K=s/\ ∃I,fr=⟨I,79,lc⟩/\((x= .exit 2/\G9 v o i g I lc/\vt c=true)\/(x= .ret/\ac I 4= .bool false/\vt c=false)):=by
 intro c;have j:=fun M s=>z.gT.lenS bT M s;have w:=z.gT.ge;have R:=gV
 induction c with
 |nil=>
  intro d e h F y;obtain⟨Y,H,J,A,p,q,V⟩:=F;have U:o.gT.length=d.length:=by rw[h];simp
  refine jL ?_;refine cC (bn ?_);simp only[aR,bL,ai,aA,mP,mz,y,A,p,q,Obj.cells,w,j,U,cq];refine W.cnFZ ?_;refine W.exit ⟨rfl,_,rfl,.inl ⟨rfl,⟨?_,H,J,?_,p,q,?_⟩,rfl⟩⟩<;>simp only[dc,ai, *]
 |cons r c O=>
  intro d e h F y;have Z:=F;obtain⟨Y,H,J,A,p,q,V⟩:=F;have C:d.length<o.gT.length:=by rw[h];simp
  have G:o.gT[d.length]? =some r:=by rw[h];simp
  have E:=fun lc=>z.gT.at bT.2.2.1 G lc .i64;have S:=z.reflen;have B:=ug (n:=d.length) (by omega);have D:aX 60 (r.length:Nat)=decide (60<r.length):=yG 60 _;refine jL ?_;refine cC (bn ?_);simp only[aR,bL,ai,aA,mP,mz,y,A,p,q,Obj.cells,w,j,C];refine li (kO ?_);simp only[fe];refine cC (jq (bn ?_));simp only[aR,jM,bL,ai,aA,gK,mP,mz,y,A,p,q,Obj.cells,E,ax,D];cases hb:decide (60<r.length) with
  |true=>
   refine li (bn ?_);simp only[gY,pd,aA];refine dZ ⟨rfl,_,rfl,.inr ⟨rfl,?_,by simp only[vt,hb,cT]⟩⟩;simp only[aV,ai, *]
  |false=>
   refine lh ?_;simp only[qA,fe];refine W.reg ?_;simp only[aR,ie,ai,aA,y,B];have T:vt (r::c)=vt c:=by simp only[vt,hb,cF]
   rw[T];refine O (d++[r]) _ (by rw[h];simp) ⟨?_,H,J,?_,p,q,?_⟩ ?_;simp only[dc,ai, *];simp only[dc,ai, *];simp only[dc,ai, *];simp only[aV,kS,ai]
def akj(A:o.Ok){i:Nat}(U:s.gE<=s.aL){lc:Ag.Loc}: ∀(c d:List fO) (e:aw),o.uP=d++c->G9 v o i g e lc->ac e 8= .int .i64 (d.length:Nat)->
 W (QS sp) 33 (.loop aqx) ⟨e,79,lc⟩ s fun x fr K=>K=s/\ ∃I,fr=⟨I,79,lc⟩/\((x= .exit 4/\G9 v o i g I lc/\vG c=true)\/(x= .ret/\ac I 4= .bool false/\vG c=false)):=by
 intro c;have j:=fun M s=>A.uP.lenS sJ M s;have y:=A.uP.ge;have R:=gV
 induction c with
 |nil=>
  intro d e h F z;obtain⟨Z,H,J,B,q,w,Y⟩:=F;have V:o.uP.length=d.length:=by rw[h];simp
  refine jL ?_;refine cC (bn ?_);simp only[aR,bL,ai,aA,rh,qI,z,B,q,w,Obj.cells,y,j,V,cq];refine W.cnFZ ?_;refine W.exit ⟨rfl,_,rfl,.inl ⟨rfl,⟨?_,H,J,?_,q,w,?_⟩,rfl⟩⟩<;>simp only[dc,ai, *]
 |cons r c O=>
  intro d e h F z;obtain⟨Z,H,J,B,q,w,Y⟩:=F;have D:d.length<o.uP.length:=by rw[h];simp
  have G:o.uP[d.length]? =some r:=by rw[h];simp
  have E:=fun lc=>A.uP.at sJ.2.2.1 G lc .i64;have S:=A.taglen;have C:=ug (n:=d.length) (by omega);refine jL ?_;refine cC (bn ?_);simp only[aR,bL,ai,aA,rh,qI,z,B,q,w,Obj.cells,y,j,D];refine li (kO ?_);simp only[fe];refine cC (jq (W.sdrawQ U ?_));simp only[aR,jM,isStore,bL,ai,aA,gK,rh,qI,uT,AA,z,B,q,w,Obj.cells,E,kM];cases hb:aeb r with
  |true=>
   have p:aX 300 (IntKind.i64.wrap ((r.1.length:Int)+(r.2.length:Int)))=true:=hb;refine ib (t:=true) (by simp only[aV,dA,ai,p]) (bn ?_);simp only[gY,pd,aA];refine dZ ⟨rfl,_,rfl,.inr ⟨rfl,?_,by simp only[vG,hb,cT]⟩⟩;simp only[aV,ai, *]
  |false=>
   have p:aX 300 (IntKind.i64.wrap ((r.1.length:Int)+(r.2.length:Int)))=false:=hb;refine ib (t:=false) (by simp only[aV,dA,ai,p]) (kO ?_);simp only[qA,fe];refine W.reg ?_;simp only[aR,ie,ai,aA,z,C];have T:vG (r::c)=vG c:=by simp only[vG,hb,cF]
   rw[T];refine O (d++[r]) _ (by rw[h];simp) ⟨?_,H,J,?_,q,w,?_⟩ ?_;simp only[dc,ai, *];simp only[dc,ai, *];simp only[dc,ai, *];simp only[aV,kS,ai]
def akg(M:au 6 Obj.val v l)(hk: ∀o∈l,o.AL)(Z:l.length<small)(hm:s.gE<=s.aL): ∀(c d:List Obj) (e:aw) (lc:Ag.Loc),l=d++c->
 ac e 2= .Gt 2 1 0->lc.gen 2=1->lc.get 2 1=some [v]->ac e 5= .int .i64 (d.length:Nat)->
 W (QS sp) 33 (.loop aqy) ⟨e,79,lc⟩ s fun x fr B=>B=s/\fr.size=79/\((x= .exit 0/\o8 c=true)\/(x= .ret/\ac fr.env 4= .bool false/\o8 c=false)):=by
 intro c;have C:=fun I s=>M.lenS eO I s;have O:=M.ge;have a3:=gV
 induction c with
 |nil=>
  intro d e lc j h2 S V h5;have M:l.length=d.length:=by rw[j];simp
  refine jL ?_;refine cC (bn ?_);simp only[aR,bL,ai,aA,xr,wB,h2,S,V,h5,O,C,M,cq];refine W.cnFZ ?_;exact W.exit ⟨rfl,rfl,.inl ⟨rfl,rfl⟩⟩
 |cons o c ih=>
  intro d e lc j h2 S V h5;have a1:d.length<l.length:=by rw[j];simp
  have R:l[d.length]? =some o:=by rw[j];simp
  have a2:=fun lc=>M.at eO.2.2.1 R lc .i64;have H:=(hk o (dM R)).toOk;have a0:=ug (n:=d.length) (by omega);have q:=fun I s=>H.gT.lenS bT I s;have z:=H.gT.ge;have w:=fun I s=>H.uP.lenS sJ I s;have D:=H.uP.ge;have Y:aX 12 (o.gT.length:Nat)=decide (12<o.gT.length):=yG 12 _;have i2:aX 20 (o.uP.length:Nat)=decide (20<o.uP.length):=yG 20 _;have i3:aX 60 (o.id.length:Nat)=decide (60<o.id.length):=yG 60 _;refine jL ?_;refine cC (bn ?_);simp only[aR,bL,ai,aA,xr,wB,h2,S,V,h5,O,C,a1];refine li (kO ?_);simp only[fe];refine cC (jq (bn ?_));simp only[aR,jM,cut,eR,cQ,bL,ai,aA,bH,cz,xr,zi,wB,Xr,h2,S,V,h5,a2,Obj.val,Obj.cells];refine cC (bn ?_);have fin: ∀e' J,ac e' 41= .bool true->W (QS sp) 33 (.cond (aC 41) (.seq (.region aqz) .ret) .skip) ⟨e',79,J⟩ s fun x fr B=>x= .ret/\B=s/\fr.size=79/\ac fr.env 4= .bool false:=by
   intro e' J h;refine ib (t:=true) (by simp only[dA,h]) (bn ?_);simp only[gY,pd,aA];exact dZ ⟨rfl,rfl,rfl,by simp only[iQ,ai,cT, *]⟩
  cases q1:decide (12<o.gT.length) with
  |true=>
   simp only[aR,bL,ai,aA,mP,mz,z,q,Y,q1];refine(fin _ _ ?_).mono ?_;simp only[aV,ai, *];rintro x fr B ⟨rfl,rfl,K,h⟩;exact⟨rfl,K,.inr ⟨rfl,h,by simp only[o8,xe,q1,jH,cT]⟩⟩
  |false=>
  cases q2:decide (20<o.uP.length) with
  |true=>
   simp only[aR,bL,ai,aA,mP,rh,mz,qI,z,q,Y,q1,D,w,i2,q2];refine(fin _ _ ?_).mono ?_;simp only[aV,ai, *];rintro x fr B ⟨rfl,rfl,K,h⟩;exact⟨rfl,K,.inr ⟨rfl,h,by simp only[o8,xe,q1,q2,jH,Bool.or_true,cT]⟩⟩
  |false=>
  cases q3:decide (60<o.id.length) with
  |true=>
   simp only[aR,jM,bL,ai,aA,gK,mP,rh,qH,mz,qI,z,q,Y,q1,D,w,i2,q2,i3,q3];refine(fin _ _ ?_).mono ?_;simp only[aV,ai, *];rintro x fr B ⟨rfl,rfl,K,h⟩;exact⟨rfl,K,.inr ⟨rfl,h,by simp only[o8,xe,q1,q2,q3,Bool.or_true,cT]⟩⟩
  |false=>
  have p:xe o=false:=by simp only[xe,q1,q2,q3,Bool.or_false]
  simp only[aR,jM,bL,ai,aA,gK,mP,rh,qH,mz,qI,z,q,Y,q1,D,w,i2,q2,i3,q3];refine lh ?_;simp only[fe];refine cC (bn ?_);simp only[gY,nH,aA];refine jq ?_;refine(akh (v:=v) H (i:=d.length) (g:=lc.gen 6+1) o.gT [] _ rfl ⟨?_,?_,?_,?_,?_,?_,?_⟩ ?_).mono ?_;simp only[dc,ai, *];simp only[fQ,ai,cF,S];simp only[f7,ai,cF,V];simp only[aV,ai, *];simp only[fQ,ai,cT];simp only[f7,bS,cT,Obj.cells];simp only[dc,ai, *];simp only[aV,ai];rfl;rintro x fr B ⟨rfl,e',rfl,⟨rfl,F,A⟩|⟨rfl,h4,A⟩⟩;show W (QS sp) 33 _ _ _ _;refine bn ?_;obtain⟨f2,E,G,f6,T,U,f5⟩:=F;simp only[gY,nH,aA];refine jq ?_;refine(akj (v:=v) H hm (i:=d.length) (g:=lc.gen 6+1) o.uP [] _ rfl ⟨?_,E,G,?_,T,U,?_⟩ ?_).mono ?_;simp only[dc,ai, *];simp only[dc,ai, *];simp only[dc,ai, *];simp only[iQ,ai,cT];rfl;rintro x fr B ⟨rfl,a4,rfl,⟨rfl,F,y⟩|⟨rfl,h4,y⟩⟩;show W (QS sp) 33 _ _ _ _;refine W.reg ?_;obtain⟨f2,E,G,f6,T,U,f5⟩:=F;simp only[aR,ie,ai,aA,f5,a0];have hr:o8 (o::c)=o8 c:=by simp only[o8,p,A,y,cT,cF]
  rw[hr];refine ih (d++[o]) _ _ (by rw[j];simp) ?_ E G ?_;simp only[dc,ai, *];simp only[aV,kS,ai];exact⟨rfl,rfl,.inr ⟨rfl,h4,by simp only[o8,p,A,y,cT,cF]⟩⟩;exact⟨rfl,rfl,.inr ⟨rfl,h4,by simp only[o8,p,A,cF]⟩⟩
def aki(q:sp 33=none)(j:au 6 Obj.val v l)(A: ∀o∈l,o.AL)(c:l.length<small)(n:Int)(z:s.gE<=s.aL):aq (QS sp) 33 [.agg [v],.int .i64 n] s (.bool (oU l n)) s:=by
 have h:=fun y s=>j.lenS eO y s;have p:=j.ge;refine lg I7.1 I7.2 I7.3 I7.4 q ?_;refine bn ?_;simp only[aR,fP,fH,ai,aA,bH,cz,Xr];refine cC (bn ?_);simp only[aR,bL,ai,aA,xr,wB,p,h];cases hb:aX n (l.length:Nat) with
 |true=>
  refine li (bn ?_);simp only[gY,pd,aA];refine dZ ⟨rfl,.inr rfl,dD ?_ rfl⟩;simp only[iQ,ai,cT,oU,hb]
 |false=>
  refine lh ?_;simp only[fe];refine cC (bn ?_);simp only[gY,nH,aA];refine jq ?_;refine(akg j A c z l [] _ _ rfl (by simp only[aV,ai, *]) (by simp only[uY,fQ,ai,cT]) (by simp only[f7,ai,cT]) (by simp only[aV,ai];rfl)).mono ?_;rintro x ⟨e,w,D⟩ C ⟨rfl,i,⟨rfl,d⟩|⟨rfl,B,d⟩⟩;have i:w=79:=i;subst i;show W (QS sp) 33 _ _ _ _;refine bn ?_;simp only[gY,pd,aA];refine dZ ⟨rfl,.inr rfl,dD ?_ rfl⟩;simp only[aV,ai,oU,hb,d];exact⟨rfl,.inr rfl,dD (by rw[B];simp only[oU,hb,cF,d]) rfl⟩
end
def Cp:Sp
 | [v,.int .i64 n]=>(jO v).bind fun l=>some (.bool (oU l n))
 |_=>none
def akc(h:au 6 Obj.val v l)(d: ∀o∈l,o.AL)(c:l.length<small)(n:Int):Cp [.agg [v],.int .i64 n]=some (.bool (oU l n)):=by
 simp only[Cp,qv h d c,bk]
def akd:cL ah 33 Cp:=by
 intro args u c G h w q x z;unfold Cp at c;split at c;rename_i v n;simp only[ak,aM] at c;obtain⟨l,j,rfl⟩:=c;obtain⟨v,rfl,j,p,B⟩:=nX j;obtain⟨A,y,d,i⟩:=o9 j p;have d:dj [.agg [v],.int .i64 n]=[.agg [y],.int .i64 n]:=by simp only[dj,d];rfl
 exact mT (Q:=QT []) (mE .nil) (fun _=>nf 1) (args:=[.agg [v],.int .i64 n]) (v:=.bool (oU l n)) (s':=s0) (by simp only[dK,A];rfl) (by rw[d];exact aki (sp:=fun f=>gg f []) rfl i p B n (Nat.le_refl _)) rfl ⟨1,rfl⟩ G h w q x z;cases c
theorem EW(a:Int):an a a=true:=bS a
def aha(P:Program)(t:TypeId)(a b:List UInt8):dz P .geq t (.str a) (.str b)=some (.bool (!Op.bytesLess a b)):=rfl
def xG(s:St)(mk:aH)(n:Nat):s.top.get mk n=s.get mk n:=rfl
variable{l:List ae}
def aji{sp:gQ}{r:List ae}(M:au 1 ax v l)(K:au 1 ax u r)(F:l.length=r.length)(C:l.length<small)(V:s.gE<=s.aL){lc:Ag.Loc}: ∀(p c i d:List ae) (e:aw),l=i++p->r=d++c->i.length=d.length->
 ac e 0=v->ac e 1=u->ac e 12= .int .i64 (l.length:Nat)->ac e 13= .int .i64 (i.length:Nat)->
 W (QS sp) 70 (.loop ark) ⟨e,26,lc⟩ s fun x fr S=>S=s/\fr.size=26/\((x= .exit 0/\(p==c)=true)\/(x= .ret/\ac fr.env 4= .bool false/\(p==c)=false)):=by
 intro p;have Z:=M.ge;have Y:=K.ge;have U:=gV
 induction p with
 |nil=>
  intro c i d e w j z R O A y;have G:l.length=i.length:=by rw[w];simp
  have h2:c=[]:=by
   have:r.length=d.length+c.length:=by rw[j];simp
   exact List.eq_nil_of_length_eq_zero (by omega)
  subst h2;refine jL ?_;refine cC (W.reg ?_);simp only[aR,ie,aA,A,y,G,cq];refine cC (W.cnFZ ?_);exact W.exit ⟨rfl,rfl,.inl rfl⟩
 |cons o p T=>
  intro c i d e w j z R O A y;have E:i.length<l.length:=by rw[w];simp
  have J:l[i.length]? =some o:=by rw[w];simp
  cases c with
  |nil=>
   have:r.length=d.length:=by rw[j];simp
   omega
  |cons q c=>
  have B:r[i.length]? =some q:=by rw[j,z];simp
  have I:=fun lc=>M.at bT.2.2.1 J lc .i64;have H:=fun lc=>K.at bT.2.2.1 B lc .i64;have D:=ug (n:=i.length) (by omega);refine jL ?_;refine cC (W.reg ?_);simp only[aR,ie,aA,A,y,E];refine cC (li (kO ?_));simp only[fe];refine cC (jq (bn ?_));simp only[aR,ai,aA,y];refine cC (W.drawQ V ?_);simp only[aR,ie,isStore,bL,ai,aA,gK,R,O,I,H,ax];cases hb:o==q with
  |false=>
   refine ib (t:=true) (by simp only[aV,dA,ai,mZ]) (bn ?_);simp only[gY,pd,mZ,aA];refine dZ ⟨rfl,rfl,.inr ⟨rfl,by simp only[aV,ai, *],?_⟩⟩;simp only[List.cons_beq_cons,hb,dL]
  |true=>
   refine ib (t:=false) (by simp only[aV,dA,ai,lD]) (kO ?_);simp only[qA,fe];refine W.reg ?_;simp only[aR,ie,ai,aA,y,D];refine(T c (i++[o]) (d++[q]) _ (by rw[w];simp) (by rw[j];simp) (by simp[z]) (by simp only[dc,ai, *]) (by simp only[dc,ai, *]) (by simp only[dc,ai, *]) (by simp only[aV,kS,ai])).mono ?_;simp only[List.cons_beq_cons,hb,eC];exact fun _ _ _ h=>h
def ajj{sp:gQ}(E:sp 70=none){r:List ae}(z:au 1 ax v l)(q:au 1 ax u r)(c:l.length<small)(C:s.gE<=s.aL):aq (QS sp) 70 [v,u] s (.bool (l==r)) s:=by
 have d:=fun p s=>z.lenS bT p s;have i:=fun p s=>q.lenS bT p s;have j:=z.ge;have A:=q.ge;refine lg Jr.1 Jr.2 Jr.3 Jr.4 E ?_;refine bn ?_;simp only[aR,fP,fH,aA,bH,cz];refine cC (bn ?_);simp only[aR,ai,aA,Xz,j,A,d,i,AN];cases hb:l.length==r.length with
 |false=>
  refine ib (t:=true) (by simp only[aV,dA,ai,mZ]) (bn ?_);simp only[gY,pd,mZ,aA];refine dZ ⟨rfl,.inr rfl,dD ?_ rfl⟩;have:(l==r)=false:=bN.2 fun e=>by subst e;simp at hb
  simp only[aV,ai,this]
 |true=>
  have y:l.length=r.length:=by simpa using hb
  refine ib (t:=false) (by simp only[aV,dA,ai,lD]) (kO ?_);simp only[fe];refine cC (W.sseq (W.reg ?_));simp only[aR,ie,ai,aA,Xz,j,d];refine jq ?_;refine(aji z q y c C l r [] [] _ rfl rfl rfl (by simp only[aV,ai, *]) (by simp only[aV,ai, *]) (by simp only[aV,ai, *]) (by simp only[aV,ai];rfl)).mono ?_;rintro x ⟨e,B,G⟩ F ⟨rfl,w,⟨rfl,h⟩|⟨rfl,D,h⟩⟩;have w:B=26:=w;subst w;show W (QS sp) 70 _ _ _ _;refine bn ?_;simp only[gY,pd,aA];refine dZ ⟨rfl,.inr rfl,dD ?_ rfl⟩;simp only[iQ,ai,cT,h];exact⟨rfl,.inr rfl,dD (by rw[D,h]) rfl⟩
def wz:Sp
 | [a,b]=>bif pures [a,b] then(dW 1 gG a).bind fun l=>(dW 1 gG b).bind fun r=>bif bh l.length small then some (.bool (l==r)) else none else none
 |_=>none
def ajg{r:List ae}(p:au 1 ax v l)(i:au 1 ax u r)(h:bG v=true)(c:bG u=true)(j:l.length<small):wz [v,u]=some (.bool (l==r)):=by
 have d:bh l.length small=true:=cN j;simp only[dX,wz,pures,h,c,bX,kT kF p,kT kF i,d]
def ajh:cL ah 70 wz:=by
 intro args x c G h w i j p;unfold wz at c;split at c;rename_i a b;obtain⟨d,c⟩:=bc c;simp only[ak] at c;obtain⟨l,B,r,A,c⟩:=c;obtain⟨q,c⟩:=bc c;injection c with c;subst c
 have z:=ig (fun v a=>kQ) B;have y:=ig (fun v a=>kQ) A;exact mT (Q:=QT []) (mE .nil) (fun _=>nf 1) (args:=[a,b]) (v:=.bool (l==r)) (s':=s0) (vH d) (by rw[kw d];exact ajj (sp:=fun f=>gg f []) rfl z y (fF q) (Nat.le_refl _)) rfl ⟨1,rfl⟩ G h w i j p;cases c
def ajk:Sp
 | [a,b]=>bif pures [a,b] then(dW 2 uH a).bind fun l=>(dW 2 uH b).bind fun r=>bif bh l.length small then some (.bool (l==r)) else none else none
 |_=>none
def V1:df:=[(70,wz),(373,ajk)]
def lz(a b:List UInt8):Bool:=decide (a<=b)
def AP(x:List UInt8):List (List UInt8)->List (List UInt8)
 | []=>[x]
 |y::l=>bif Ag.leBytes x y then x::y::l else y::AP x l
def lB:List (List UInt8)->List (List UInt8)
 | []=>[]
 |x::l=>AP x (lB l)
def Ag.leBytes_iff(x y:List UInt8):Ag.leBytes x y=lz x y:=by
 have h:Ag.leBytes x y=(Op.bytesLess x y||x==y):=rfl;rw[h,Go.Proofs.bytesLess_eq];apply Bool.eq_iff_iff.2;simp only[lz,uj,dE,bE];constructor;rintro(h|rfl);exact List.le_of_lt h;exact List.le_refl _;intro h;by_cases e:x=y;exact .inr e;exact .inl (Classical.byContradiction fun c=>e (List.le_antisymm h (List.not_lt.1 c)))
def Og(x:List UInt8): ∀l,(AP x l).Perm (x::l)
 | []=>.refl _
 |y::l=>by
  simp only[AP];cases Ag.leBytes x y with
  |true=>exact .refl _
  |false=>exact((Og x l).cons y).trans (.swap x y l)
theorem GA: ∀l,(lB l).Perm l
 | []=>.refl _
 |x::l=>(Og x _).trans ((GA l).cons x)
def Z0(a b c:List UInt8)(h:lz a b=true)(d:lz b c=true):lz a c=true:=by
 simp only[lz,dE] at*;exact List.le_trans h d
def ZZ(a b:List UInt8):(lz a b||lz b a)=true:=by
 simp only[lz,uj,dE];exact List.le_total a b
def XK(x:List UInt8): ∀l,l.Pairwise (fun a b=>lz a b=true)->(AP x l).Pairwise (fun a b=>lz a b=true)
 | [],_=>by simp[AP]
 |y::l,h=>by
  simp only[AP];cases e:Ag.leBytes x y with
  |true=>
   rw[Ag.leBytes_iff] at e;refine sT.2 ⟨fun z c=>?_,h⟩;rcases dG.1 c with rfl|c
   exact e;exact Z0 _ _ _ e ((sT.1 h).1 z c)
  |false=>
   rw[Ag.leBytes_iff] at e;refine sT.2 ⟨fun z c=>?_,XK x l (sT.1 h).2⟩;rcases dG.1 ((Og x l).mem_iff.1 c) with rfl|c
   have:=ZZ z y;rw[e,jV] at this;exact this;exact(sT.1 h).1 z c
theorem RX: ∀l,(lB l).Pairwise (fun a b=>lz a b=true)
 | []=>.nil
 |x::l=>XK x _ (RX l)
def axx(l:List (List UInt8)):l.mergeSort (fun x y=>decide (x<=y))=lB l:=by
 refine List.Perm.eq_of_pairwise (le:=fun a b=>lz a b=true) (fun a b _ _ d c=>?_) (List.pairwise_mergeSort Z0 ZZ l) (RX l) ((List.mergeSort_perm l _).trans (GA l).symm);simp only[lz,dE] at d c;exact List.le_antisymm d c
def dn:List UInt8->List UInt8->Int
 | [],[]=>0
 | [],_::_=> -1
 |_::_,[]=>1
 |a::x,b::y=>bif bh a.toNat b.toNat then-1 else bif bh b.toNat a.toNat then 1 else dn x y
