/- Lemmas for ValidParts. -/
import Derived.Test.YtnnppcoplinajaaGreatB1
import Derived.Test.YtnnppcoplinajaaGreatZ1b
import Derived.Sort.Walk0
import Derived.Lib.Bytealg
set_option linter.all false
open Bool renaming and_eq_true→bm,and_false→gh,and_self→bW,false_and→dA,false_or→hZ,or_eq_true→vF,true_and→en,true_or→gZ
open List renaming all_eq_true→fu,cons_append→qW,contains_cons→Gu,drop→bK,length_append→cD,length_cons→dM,length_nil→cV,map_cons→eA,mem_cons→dl,mem_of_getElem?→dB,mem_range→xF,pairwise_cons→sC,take→cM
open Nat renaming beq→aK,ble_eq_true_of_le→cE,blt→bh,le_of_ble_eq_true→fF,lt_irrefl→cq,reduceAdd→bG,reduceBEq→ai,reduceLT→ay,reduceLeDiff→cy,zero_add→eH,zero_lt_succ→nH
open Go.Operand renaming tmp→aB
open Option renaming bind_eq_some_iff→aj,bind_some→bg,map_some→jI
open Option.some renaming injEq→aH
open Go.Ag.aq renaming of2→lu
open Go.Proofs.Tryz renaming prog→ah
open Go.Ag.W renaming block→jX,cnSZ→kX,cnTZ→lw,cond→jc,loop1→kq,ret→dZ,seq→cK,skip→lY,sreg→br
namespace Go.Proofs.YtnnppcoplinajaaGreat
open Go.Ag
def small:Nat:=9223372036854775808
def i6:small=9223372036854775808:=rfl
abbrev fO:=ae×ae
def aA(s:ae):aa:=.str s
def ki(t:fO):aa:=.agg [.str t.1,.str t.2]
def iL:aa->Option ae
 | .str s=>some s
 |_=>none
def ur:aa->Option fO
 | .agg [.str a,.str b]=>some (a,b)
 |_=>none
def hJ{α β:Type}(g:α->Option β):List α->Option (List β)
 | []=>some []
 |a::l=>(g a).bind fun b=>(hJ g l).bind fun r=>some (b::r)
def ek{α:Type}(n:Nat)(c:aa->Option α):aa->Option (List α)
 | .AL=>some []
 | .list m xs _=>bif aK m n then hJ c xs else none
 |_=>none
variable{v:aa}
theorem pf{s:ae}(h:iL v=some s):v=aA s:=by
 unfold iL at h;split at h;injection h with h;subst h;rfl
 cases h
def Ls{t:fO}(h:ur v=some t):v=ki t:=by
 unfold ur at h;split at h;injection h with h;subst h;rfl
 cases h
def Fq{α:Type}{c:aa->Option α}{enc:α->aa}(d: ∀v a,c v=some a->v=enc a): ∀ {xs:List aa} {l:List α},hJ c xs=some l->xs=l.map enc
 | [],l,h=>by simp only[hJ,aH] at h;subst h;rfl
 |x::xs,l,h=>by
  simp only[hJ,aj,aH] at h;obtain⟨a,j,r,i,rfl⟩:=h;rw[eA,<-d x a j,<-Fq d i]
def yH{α:Type}{c:aa->Option α}{enc:α->aa}(d: ∀a,c (enc a)=some a): ∀(l:List α),hJ c (l.map enc)=some l
 | []=>rfl
 |a::l=>by simp only[eA,hJ,d,bg,yH d l]
variable{n:Nat}{α:Type}
theorem jN{c:aa->Option α}{enc:α->aa}(d: ∀v a,c v=some a->v=enc a){l:List α}(h:ek n c v=some l):ax n enc v l:=by
 unfold ek at h;split at h;injection h with h;exact .inl ⟨rfl,h.symm⟩
 obtain⟨j,i⟩:=aY h
 have:=Nat.eq_of_beq_eq_true j;subst this;rename_i p r;exact .inr ⟨r,by rw[Fq d i]⟩;cases h
def pA{c:aa->Option α}{enc:α->aa}(d: ∀a,c (enc a)=some a){l:List α}(h:ax n enc v l):ek n c v=some l:=by
 rcases h with⟨rfl,rfl⟩|⟨r,rfl⟩
 rfl;simp only[fH,ek,yH d]
def vf{enc:α->aa}(d: ∀a,bH (enc a)=true)(l:List α):pures (l.map enc)=true:=by
 rw[AP];intro v c;obtain⟨a,_,rfl⟩:=List.mem_map.1 c;exact d a
def n7{enc:α->aa}(c: ∀a,bH (enc a)=true){l:List α}(h:ax n enc v l):dL v=true/\ax n enc (cW v) l:=by
 rcases h with⟨rfl,rfl⟩|⟨r,rfl⟩
 exact⟨rfl,.inl ⟨rfl,rfl⟩⟩;exact⟨by simpa[dL] using vf c l,.inr (by
  simp only[cW,kC (vf c l)];exact⟨_,rfl⟩)⟩
def tS(s:ae):bH (aA s)=true:=rfl
def RC(t:fO):bH (ki t)=true:=rfl
def pg(s:ae):iL (aA s)=some s:=rfl
def Lu(t:fO):ur (ki t)=some t:=rfl
theorem aR(s:St)(n m:Nat)(o:Option aJ):(s.put n o).get [] m=bif m==n then o else s.get [] m:=by
 simp only[St.get,St.put,dy,cF,aC.get_set];by_cases h:m=n;subst h;simp;rw[iN h,bN.2 h];rfl
def eT(s:St)(m:Nat)(o:aJ):(s.new o).get [] m=bif m==s.aL then some o else s.get [] m:=by
 simp only[St.get,St.new,dy,cF,aC.get_set];by_cases h:m=s.aL;subst h;simp;rw[iN h,bN.2 h];rfl
def mA(s:St)(n:Nat)(o:Option aJ):(s.put n o).aL=s.aL:=rfl
def PN(s:St)(o:aJ):(s.new o).aL=s.aL+1:=rfl
def mV(n:Nat):List (ae×aa)->List dj
 | []=>[]
 |(k,v)::l=>⟨.str k,v,n⟩::mV (n+1) l
def look(k:ae):List (ae×aa)->Option aa
 | []=>none
 |(a,v)::l=>bif k==a then some v else look k l
def qP(k:ae):List (ae×aa)->Nat
 | []=>0
 |(a,_)::l=>bif k==a then 0 else qP k l+1
variable{l:List (ae×aa)}{m:Nat}{s:St}{e t:TypeId}
section
variable{P:Program}{kt:TypeId}(heq: ∀a b:List UInt8,j1 P 8 kt (.str a) (.str b)=some (a==b))
include heq
theorem MW: ∀(l:List (ae×aa)) (k:ae) (n i:Nat),mW P kt (.str k) (mV n l) i=some ((look k l).map fun v=>(i+qP k l,⟨.str k,v,n+qP k l⟩))
 | [],k,n,i=>rfl
 |(a,v)::l,k,n,i=>by
  simp only[mV,mW,heq,bg,look,qP];cases h:k==a with
  |true=>
   have:k=a:=by simpa using h
   subst this;simp
  |false=>
   simp only[cF];rw[MW l k (n+1) (i+1)];cases look k l with
   |none=>rfl
   |some u=>
    simp only[jI];rw[show i+1+qP k l=i+(qP k l+1) by omega,show n+1+qP k l=n+(qP k l+1) by omega]
theorem aqQ{z:aa}(i: ∀k:List UInt8,lh P t (.str k)=some (kt,e))(d:dX P e=some z){c:Nat}(h:s.get [] m=some (.map (mV 0 l) c))(k:ae):
 n8 P [] t (.map m) (.str k) false s=some ((look k l).getD z):=by
 simp only[n8,i,bg,d,Az,h,MW heq l k 0 0];cases look k l<;>rfl
end
def Vm: ∀(l r:List (ae×aa)) (n:Nat),mV n (l++r)=mV n l++mV (n+l.length) r
 | [],r,n=>rfl
 |(a,v)::l,r,n=>by simp only[qW,mV,Vm l r (n+1),dM];congr 3;omega
def tl(k:ae)(v:aa):List (ae×aa)->List (ae×aa)
 | []=>[(k,v)]
 |(a,u)::l=>bif k==a then(k,v)::l else(a,u)::tl k v l
def WO{k:ae}{v:aa}: ∀ {l},look k l=none->tl k v l=l++[(k,v)]
 | [],_=>rfl
 |(a,u)::l,h=>by
  simp only[look] at h;simp only[tl];cases h1:k==a with
  |true=>rw[h1] at h;cases h
  |false=>rw[h1] at h;simp only[cF,WO h,qW]
def Vn{k:ae}{u v:aa}: ∀ {l:List (ae×aa)} {n:Nat},look k l=some u->(mV n l).set (qP k l) ⟨.str k,v,n+qP k l⟩=mV n (tl k v l)
 | [],_,h=>by cases h
 |(a,w)::l,n,h=>by
  simp only[look] at h;simp only[tl,qP,mV];cases h1:k==a with
  |true=>simp[mV]
  |false=>
   rw[h1] at h;simp only[cF,List.set_cons_succ,mV];rw[<-Vn (l:=l) (n:=n+1) h,show n+(qP k l+1)=n+1+qP k l by omega]
def axt{P:Program}{kt:TypeId}(heq: ∀a b:List UInt8,j1 P 8 kt (.str a) (.str b)=some (a==b))(p: ∀k:List UInt8,lh P t (.str k)=some (kt,e))(j:s.get [] m=some (.map (mV 0 l) l.length))(k:ae)(v:aa):
 qV P [] t (.map m) (.str k) v s=some (s.put m (some (.map (mV 0 (tl k v l)) (tl k v l).length))):=by
 have c: ∀ {l:List (ae×aa)} {u:aa},look k l=some u->(tl k v l).length=l.length:=by
  intro l
  induction l with
  |nil=>intro u h;cases h
  |cons x l i=>
   obtain⟨a,w⟩:=x;intro u h;simp only[look] at h;simp only[tl];cases h1:k==a with
   |true=>rfl
   |false=>rw[h1] at h;simp only[cF,dM,i h]
 simp only[qV,p,bg,j,MW heq l k 0 0];cases h:look k l with
 |none=>
  simp only[fh,Option.map_none,WO h,cD,Vm,eH];rfl
 |some u=>
  have d:tz (.str k) (.str k)=true:=by simp[tz,w9]
  simp only[jI,d,cT,c h]
  have:=Vn (v:=v) (n:=0) h;rw[eH] at this ⊢;rw[this]
def yx(b:UInt8):Bool:=Pg b.toNat
def HJ(b:UInt8):Bool:=Hh b.toNat
def CG(s:ae):Bool:=s.all fun b=>yx b||HJ b||aK b.toNat 95
def jA(s:ae):Bool:=match s with| []=>false|b::r=>yx b&&CG r&&Nat.ble (b::r).length 24
def kO:Sp
 | [.str s]=>bif bh s.length small then some (.bool (jA s)) else none
 |_=>none
def AC{s:ae}(h:s.length<small):kO [.str s]=some (.bool (jA s)):=by
 simp only[kO,oc,h,dT,cT]
def rS(i:Nat)(b:UInt8):Bool:=yx b||(!(i==0)&&(HJ b||(b.toNat==95)))
def rN:Nat->ae->Bool
 |_,[]=>true
 |i,b::r=>rS i b&&rN (i+1) r
def PE: ∀(s:ae) (i:Nat),rN (i+1) s=CG s
 | [],_=>rfl
 |b::r,i=>by
  simp only[rN,CG,List.all_cons];rw[PE r (i+1)];simp[rS,CG,Bool.or_assoc,iU]
def Eb(b:UInt8):an ((xW b.toNat:Nat):Int) 3=yx b:=by
 rw[show(3:Int)=((3:Nat):Int) from rfl,Ce];unfold xW yx;cases Pg b.toNat with
 |true=>rfl
 |false=>
  simp only[cF];cases Hh b.toNat with
  |true=>rfl
  |false=>
   simp only[cF];cases Ft b.toNat [32,9,10] with
   |true=>rfl
   |false=>
    simp only[cF];cases Ft b.toNat [59,44,46,58,40,41,123,125,91,93,61,60,62,47,45] with
    |true=>rfl
    |false=>
     simp only[cF];cases aK b.toNat 35<;>cases aK b.toNat 95<;>cases aK b.toNat 34<;>rfl
def U3:(List.range 256).all (fun n=>(aK (xW n) 4==Hh n)&&(aK (xW n) 5==aK n 95))=true:=by decide+kernel
def L7(b:UInt8):an ((xW b.toNat:Nat):Int) 4=HJ b:=by
 rw[show(4:Int)=((4:Nat):Int) from rfl,Ce,<-iU]
 have:=fu.1 U3 b.toNat (xF.2 b.toNat_lt);simp only[bm,bE] at this;exact this.1
def U0(b:UInt8):an ((xW b.toNat:Nat):Int) 5=(b.toNat==95):=by
 rw[<-iU b.toNat,show(5:Int)=((5:Nat):Int) from rfl,Ce,<-iU]
 have:=fu.1 U3 b.toNat (xF.2 b.toNat_lt);simp only[bm,bE] at this;exact this.2
variable{g:Nat}
section
variable{sp:g9}
def arn{str:ae}(E:str.length<9223372036854775808): ∀(d c:ae) (e:aw) (lc:Ag.Loc),str=c++d->
 ac e 0= .str str->ac e 3= .Ge 3 g 0->lc.gen 3=g->lc.get 3 g=some (sW 256 0)->ac e 8= .int .i64 (str.length:Nat)->ac e 9= .int .i64 (c.length:Nat)->
 W (QS sp) 163 (.loop ank) ⟨e,39,lc⟩ s fun x fr z=>z=s/\fr.size=39/\((x= .exit 0/\ac fr.env 0= .str str/\rN c.length d=true)\/(x= .ret/\ac fr.env 2= .bool false/\rN c.length d=false)):=by
 intro d
 induction d with
 |nil=>
  intro c e lc i O M D C I y;have B:str.length=c.length:=by rw[i];simp
  refine kq ?_;refine br ?_;simp only[aU,ay,I,y,B,cq];refine cK (W.cnFZ ?_);refine W.exit ?_;refine⟨rfl,rfl,.inl ⟨rfl,?_,rfl⟩⟩;simp only[dh,ai, *]
 |cons b d F=>
  intro c e lc i O M D C I y;have H:c.length<str.length:=by rw[i];simp
  have w:str.drop c.length=b::d:=by rw[i];simp
  have K:b.toNat<256:=b.toNat_lt;have p:=U1 256 0 b.toNat K;rw[eH] at p;have u:=vD (n:=c.length) (by omega);have q:an (c.length:Int) 0=(c.length==0):=Ce _ 0;refine kq ?_;refine br ?_;simp only[aU,ay,I,y,H];refine cK (lw (lY ?_));refine cK (jX ?_);refine br ?_;simp only[aU,ai,ay,y];refine br ?_;simp only[aU,jK,ai,ay,JM,O,M,w,K,D,C,p,Nat.mul_one];refine br ?_;have fin: ∀J A,ac J 30= .bool true->W (QS sp) 163 (.cond (aB 30) (.seq (.region anl) .ret) .skip) ⟨J,39,A⟩ s fun x fr z=>x= .ret/\z=s/\fr.size=39/\ac fr.env 2= .bool false:=by
   intro J A h;refine jc (t:=true) (by simp only[dR,h]) (br ?_);simp only[iA,rR,ay];exact dZ ⟨rfl,rfl,rfl,by simp only[iV,ai,cT, *]⟩
  cases hL:yx b with
  |true=>
   simp only[aU,ai,ay,Eb,hL];refine kX ?_;simp only[rq,fJ];refine W.reg ?_;simp only[aU,js,ai,ay,y,u];refine(F (c++[b]) _ _ (by rw[i];simp) (by simp only[dh,ai, *]) (by simp only[dh,ai, *]) D C (by simp only[dh,ai, *]) (by simp only[aW,fh,ai,cD])).mono ?_;have j:rS c.length b=true:=by simp[rS,hL]
   simp only[fh,rN,j,en,cD];exact fun _ _ _ h=>h
  |false=>
  cases hz:c.length==0 with
  |true=>
   simp only[aU,ai,ay,q,Eb,hL,hz];refine(fin _ _ ?_).mono ?_;simp only[aW,ai, *];rintro x fr z ⟨rfl,rfl,G,h⟩;exact⟨rfl,G,.inr ⟨rfl,h,by simp[rN,rS,hL,hz]⟩⟩
  |false=>
  cases hD:HJ b with
  |true=>
   simp only[aU,ai,ay,q,Eb,L7,hL,hz,hD];refine kX ?_;simp only[rq,fJ];refine W.reg ?_;simp only[aU,js,ai,ay,y,u];refine(F (c++[b]) _ _ (by rw[i];simp) (by simp only[dh,ai, *]) (by simp only[dh,ai, *]) D C (by simp only[dh,ai, *]) (by simp only[aW,fh,ai,cD])).mono ?_;have j:rS c.length b=true:=by simp[rS,hL,hz,hD]
   simp only[fh,rN,j,en,cD];exact fun _ _ _ h=>h
  |false=>
  cases hU:b.toNat==95 with
  |true=>
   simp only[aU,ai,ay,q,Eb,L7,U0,hL,hz,hD,hU];refine kX ?_;simp only[rq,fJ];refine W.reg ?_;simp only[aU,js,ai,ay,y,u];refine(F (c++[b]) _ _ (by rw[i];simp) (by simp only[dh,ai, *]) (by simp only[dh,ai, *]) D C (by simp only[dh,ai, *]) (by simp only[aW,fh,ai,cD])).mono ?_;have j:rS c.length b=true:=by simp[rS,hL,hz,hD,hU]
   simp only[fh,rN,j,en,cD];exact fun _ _ _ h=>h
  |false=>
   simp only[aU,ai,ay,q,Eb,L7,U0,hL,hz,hD,hU];refine(fin _ _ ?_).mono ?_;simp only[aW,ai, *];rintro x fr z ⟨rfl,rfl,G,h⟩;exact⟨rfl,G,.inr ⟨rfl,h,by simp[rN,rS,hL,hz,hD,hU]⟩⟩
def aro(u:sp 260=some J7)(h94:sp 163=none)(str:ae)(d:str.length<9223372036854775808)(s:St):aq (QS sp) 163 [.str str] s (.bool (jA str)) s:=by
 have i:J7 []=some (.agg (sW 256 0)):=rfl;have p:=U2 256 0;refine lu H2.1 H2.2 H2.3 H2.4 h94 ?_;refine br ?_;simp only[aU,fZ,fT,ay,cy];refine br ?_;have D:dX ah 320=some (.agg (aX [.int .u8 0] 256)):=by kernel_rfl
 have j:(aX [aa.int .u8 0] 256).length=256:=by kernel_rfl
 have E:eM (aX [aa.int .u8 0] 256) 0 (sW 256 0)=some (sW 256 0):=by
  simp only[eM,j,p,Je];have:bK (0+256) (aX [aa.int .u8 0] 256)=[]:=List.drop_eq_nil_of_le (by rw[j];omega);rw[this];simp
 simp only[aU,jK,u,i,D,E,p,ai,ay,akV];refine cK (br ?_);simp only[aU,jK,ai,ay];refine jX ?_;refine(arn d (g:=1) str [] _ _ rfl (by simp only[aW,ai, *]) (by simp only[aW,ai, *]) (by simp only[uM,gw,ai,cT]) (by simp only[gI,ai,cT]) (by simp only[aW,ai, *]) (by simp only[aW,ai];rfl)).mono ?_;rintro x ⟨e,C,H⟩ G ⟨rfl,y,⟨rfl,w,c⟩|⟨rfl,q,c⟩⟩;have y:C=39:=y;subst y;have w:ac e 0= .str str:=w;show W (QS sp) 163 _ _ _ _;refine br ?_;have A:bV (str.length:Int) 24=decide (str.length<=24):=HF _ 24;cases str with
 |nil=>
  simp only[aU,ai,ay,w];refine dZ ⟨rfl,.inr rfl,dK ?_ rfl⟩;simp only[aW,ai, *];rfl
 |cons b r=>
  have z:((b::r:ae)== [])=false:=rfl;simp only[aU,jK,ai,ay,w,z];refine dZ ⟨rfl,.inr rfl,dK ?_ rfl⟩;simp only[aW,ai];have F:jA (b::r)=decide ((b::r).length<=24):=by
   simp only[rN,cV,eH,bm] at c;have B:yx b=true:=by simpa[rS] using c.1
   have q:CG r=true:=by rw[<-PE r 0];exact c.2
   simp only[jA,B,q,en,Je]
  rw[F];exact congrArg aa.bool A
 refine⟨rfl,.inr rfl,dK ?_ rfl⟩;rw[q];cases str with
 |nil=>cases c
 |cons b r=>
  simp only[rN,cV,eH,Bool.and_eq_false_iff] at c;refine congrArg aa.bool ?_;rcases c with h|h
  have B:yx b=false:=by simpa[rS] using h
  simp[jA,B];have q:CG r=false:=by rw[<-PE r 0];exact h
  simp[jA,q]
end
def T2:dp:=(260,J7)::T1
def SD:du T2:=.cons av1 SB
def PF:cQ ah 163 kO:=by
 intro args v c G h w i j p;unfold kO at c;split at c;rename_i s;obtain⟨d,c⟩:=aY c;injection c with c;subst c
 have d:s.length<small:=fF d;exact nB (Q:=QT T2) (mY SD) (fun _=>nH 1) (args:=[.str s]) (v:=.bool (jA s)) (s':=s0) rfl (aro (sp:=fun f=>gD f T2) rfl rfl s d s0) rfl ⟨1,rfl⟩ G h w i j p;cases c
def pX(last:ae)(t:fO):Bool:= !jA t.1||Ag.leBytes t.1 last||(t.2== [])||decide (200<t.2.length)
def tU:ae->List fO->Bool
 |_,[]=>true
 |last,t::r=>bif pX last t then false else tU t.1 r
def lR(l:List fO):Bool:=tU [] l&&decide (l.length<=60)
variable{l:List fO}
section
variable{sp:g9}(h94:sp 163=some kO)
include h94
theorem awF(J:ax 2 ki v l)(S: ∀t∈l,t.1.length<small)(D:l.length<small): ∀(c d:List fO) (e:aw) (lc:Ag.Loc) (last:ae),l=d++c->
 ac e 0=v->ac e 6=v->ac e 7= .int .i64 (l.length:Nat)->ac e 8= .int .i64 (d.length:Nat)->ac e 3= .str last->
 W (QS sp) 164 (.loop anm) ⟨e,39,lc⟩ s fun x fr p=>p=s/\fr.size=39/\((x= .exit 0/\ac fr.env 0=v/\tU last c=true)\/(x= .ret/\ac fr.env 2= .bool false/\tU last c=false)):=by
 intro c
 induction c with
 |nil=>
  intro d e lc last i M K H B C;have w:l.length=d.length:=by rw[i];simp
  refine kq ?_;refine br ?_;simp only[aU,ay,H,B,w,cq];refine cK (jc (t:=false) (by simp only[dR,PR]) ?_);refine W.exit ?_;refine⟨rfl,rfl,.inl ⟨rfl,?_,rfl⟩⟩;simp only[dh,ai,M]
 |cons t c O=>
  intro d e lc last i M K H B C;have F:d.length<l.length:=by rw[i];simp
  have A:l[d.length]? =some t:=by rw[i];simp
  have G:=fun lc=>J.at sk.2.2.1 A lc .i64;have T:=J.ge;have j:=AC (S t (dB A));have R:=i6;have E:=vD (n:=d.length) (by omega);refine kq ?_;refine br ?_;simp only[aU,ay,H,B,F];refine cK (jc (t:=true) (by simp only[dR,PR]) (lY ?_));refine cK (jX ?_);refine br ?_;simp only[aU,jK,cut,eM,cM,bK,ai,ay,bG,cy,JN,Ni,K,B,G,ki];refine cK (br ?_);have fin: ∀I u,ac I 32= .bool true->pX last t=true->W (QS sp) 164 (.cond (aB 32) (.seq (.region ann) .ret) .skip) ⟨I,39,u⟩ s fun x fr p=>x= .ret/\p=s/\fr.size=39/\ac fr.env 2= .bool false:=by
   intro I u h _;refine jc (t:=true) (by simp only[dR,h]) (br ?_);simp only[iA,rR,ay];exact dZ ⟨rfl,rfl,rfl,by simp only[iV,ai,cT, *]⟩
  cases hb1:jA t.1 with
  |false=>
   simp only[aU,bK,ai,ay,gR,uH,h94,j,hb1];refine(fin _ _ ?_ ?_).mono ?_;simp only[aW,ai, *];simp[pX,hb1];rintro x fr p ⟨rfl,rfl,q,h⟩;exact⟨rfl,q,.inr ⟨rfl,h,by simp[tU,pX,hb1]⟩⟩
  |true=>
  cases hb2:Ag.leBytes t.1 last with
  |true=>
   simp only[aU,bK,ai,ay,gR,uH,C,h94,j,hb1,hb2];refine(fin _ _ ?_ ?_).mono ?_;simp only[aW,ai, *];simp[pX,hb1,hb2];rintro x fr p ⟨rfl,rfl,q,h⟩;exact⟨rfl,q,.inr ⟨rfl,h,by simp[tU,pX,hb1,hb2]⟩⟩
  |false=>
  cases hb3:t.2== [] with
  |true=>
   simp only[aU,bK,ai,ay,gR,uH,z9,C,h94,j,hb1,hb2,hb3];refine(fin _ _ ?_ ?_).mono ?_;simp only[aW,ai, *];simp[pX,hb1,hb2,hb3];rintro x fr p ⟨rfl,rfl,q,h⟩;exact⟨rfl,q,.inr ⟨rfl,h,by simp[tU,pX,hb1,hb2,hb3]⟩⟩
  |false=>
  have y:aV 200 (t.2.length:Nat)=decide (200<t.2.length):=yj 200 _;cases hb4:decide (200<t.2.length) with
  |true=>
   simp only[aU,jK,bK,ai,ay,gR,uH,z9,Ni,C,h94,j,hb1,hb2,hb3,y,hb4];refine(fin _ _ ?_ ?_).mono ?_;simp only[aW,ai, *];simp[pX,hb1,hb2,hb3,hb4];rintro x fr p ⟨rfl,rfl,q,h⟩;exact⟨rfl,q,.inr ⟨rfl,h,by simp[tU,pX,hb1,hb2,hb3,hb4]⟩⟩
  |false=>
   simp only[aU,jK,bK,ai,ay,gR,uH,z9,Ni,C,h94,j,hb1,hb2,hb3,y,hb4];refine kX ?_;simp only[fJ];refine W.reg ?_;simp only[aU,js,bK,ai,ay,gR,uH];refine W.reg ?_;simp only[aU,js,ai,ay,B,E];refine(O (d++[t]) _ _ t.1 (by rw[i];simp) (by simp only[dh,ai, *]) (by simp only[dh,ai, *]) (by simp only[dh,ai, *]) (by simp only[aW,fh,ai,cD]) (by simp only[aW,ai, *])).mono ?_;have z:pX last t=false:=by simp[pX,hb1,hb2,hb3,hb4]
   simp only[tU,z,cF];exact fun _ _ _ h=>h
theorem awG(h95:sp 164=none)(p:ax 2 ki v l)(y: ∀t∈l,t.1.length<small)(c:l.length<small)(s:St):aq (QS sp) 164 [v] s (.bool (lR l)) s:=by
 have d:=fun w s=>p.lenS sk w s;have i:=p.ge;refine lu H3.1 H3.2 H3.3 H3.4 h95 ?_;refine br ?_;simp only[aU,fZ,fT,ay,cy];refine br ?_;simp only[iA,FE,ay];refine cK (br ?_);simp only[aU,ai,ay,i,d];refine jX ?_;refine(awF h94 p y c l [] _ _ [] rfl (by simp only[aW,ai, *]) (by simp only[aW,ai, *]) (by simp only[aW,ai, *]) (by simp only[aW,ai];rfl) (by simp only[aW,ai, *])).mono ?_;rintro x ⟨e,u,B⟩ A ⟨rfl,j,⟨rfl,q,h⟩|⟨rfl,z,h⟩⟩;have j:u=39:=j;subst j;have q:ac e 0=v:=q;show W (QS sp) 164 _ _ _ _;refine br ?_;simp only[aU,ai,ay,q,i,d];refine dZ ⟨rfl,.inr rfl,dK ?_ rfl⟩;simp only[aW,ai,lR,h,en];exact congrArg aa.bool (HF l.length 60);exact⟨rfl,.inr rfl,dK (by rw[z];simp[lR,h]) rfl⟩
end
def A3:List fO->Bool
 | []=>true
 |t::l=>bh t.1.length small&&A3 l
def Q5: ∀ {l:List fO},A3 l=true-> ∀t∈l,t.1.length<small
 | [],_,_,h=>by cases h
 |a::l,h,t,c=>by
  simp only[A3,bm] at h;rcases dl.1 c with rfl|c
  exact fF h.1;exact Q5 h.2 t c
def Q6: ∀ {l:List fO},(∀t∈l,t.1.length<small)->A3 l=true
 | [],_=>rfl
 |a::l,h=>by
  simp only[A3,bm];exact⟨cE (h a (by simp)),Q6 fun t c=>h t (by simp[c])⟩
def Dw:Sp
 | [v]=>(ek 2 ur v).bind fun l=>bif bh l.length small&&A3 l then some (.bool (lR l)) else none
 |_=>none
def awC(h:ax 2 ki v l)(d:l.length<small)(c: ∀t∈l,t.1.length<small):Dw [v]=some (.bool (lR l)):=by
 simp only[go_sem,Dw,pA Lu h,d,Q6 c]
def T3:dp:=(163,kO)::T2
def SE:du T3:=.cons PF SD
def awD:cQ ah 164 Dw:=by
 intro args u c G h w i j p;unfold Dw at c;split at c;rename_i v;simp only[aj] at c;obtain⟨l,z,c⟩:=c;obtain⟨d,c⟩:=aY c;injection c with c;subst c
 simp only[bm] at d;have y:ax 2 ki v l:=jN (fun _ _=>Ls) z;obtain⟨x,q⟩:=n7 RC y;exact nB (Q:=QT T3) (mY SE) (fun _=>nH 1) (args:=[v]) (v:=.bool (lR l)) (s':=s0) (by simp only[ei,x,bW])
  (awG (sp:=fun f=>gD f T3) rfl rfl q (Q5 d.2) (fF d.1) s0) rfl ⟨1,rfl⟩ G h w i j p
 cases c
def oZ(k:Int):ae:=bif an k 1 then [110,111,100,101] else bif an k 2 then [119,97,121] else bif an k 3 then [97,114,101,97] else bif an k 4 then [114,111,117,116,101] else bif an k 5 then [116,117,114,110] else []
def Gp:Sp
 | [.int .i64 k]=>some (.str (oZ k))
 |_=>none
def ahZ:nV [] 100 162 [.int .i64 0]=some (.str (oZ 0),0):=by kernel_rfl
def ah0:nV [] 100 162 [.int .i64 1]=some (.str (oZ 1),0):=by kernel_rfl
def ah1:nV [] 100 162 [.int .i64 2]=some (.str (oZ 2),0):=by kernel_rfl
def ah2:nV [] 100 162 [.int .i64 3]=some (.str (oZ 3),0):=by kernel_rfl
def ah3:nV [] 100 162 [.int .i64 4]=some (.str (oZ 4),0):=by kernel_rfl
def ah4:nV [] 100 162 [.int .i64 5]=some (.str (oZ 5),0):=by kernel_rfl
variable{k:Int}
def axR{sp:g9}(h93:sp 162=none)(p:k<0\/6<=k)(s:St):aq (QS sp) 162 [.int .i64 k] s (.str []) s:=by
 refine lu H1.1 H1.2 H1.3 H1.4 h93 ?_;refine br ?_;simp only[aU,fZ,fT,ay,cy];refine br ?_;simp only[aU,jK,eM,cM,bK,ai,ay,bG,Nat.reduceMul,cy,TW,akU,bc];refine cK (br ?_);have fin: ∀i c,ac i 10= .bool true->W (QS sp) 162 (.cond (aB 10) (.seq (.region anj) .ret) .skip) ⟨i,14,c⟩ s fun x fr d=>x= .ret/\d=s/\ac fr.env 2= .str []:=by
  intro i c h;refine jc (t:=true) (by simp only[dR,h]) (br ?_);simp only[iA,FE,ay];exact dZ ⟨rfl,rfl,by simp only[iV,ai,cT, *]⟩
 cases h1:aV k 0 with
 |true=>
  simp only[aU,ai,ay,h1];refine(fin _ _ ?_).mono ?_;simp only[aW,ai, *];rintro x fr d ⟨rfl,rfl,h⟩;exact⟨rfl,.inr rfl,dK h rfl⟩
 |false=>
  have j:bV 6 k=true:=by
   simp only[aV,decide_eq_false_iff_not] at h1;simp only[bV,dE];omega
  simp only[aU,ai,ay,h1,j];refine(fin _ _ ?_).mono ?_;simp only[aW,ai, *];rintro x fr d ⟨rfl,rfl,h⟩;exact⟨rfl,.inr rfl,dK h rfl⟩
def nY{a b:Int}(h:a≠b):an a b=false:=bN.2 h
def axP:cQ ah 162 Gp:=by
 intro args u p G h w c d i;unfold Gp at p;split at p;rename_i k;injection p with p;subst p
 have j:(k<0\/6<=k)\/k=0\/k=1\/k=2\/k=3\/k=4\/k=5:=by omega
 rcases j with x|rfl|rfl|rfl|rfl|rfl|rfl
 have q:oZ k=[]:=by
  simp only[oZ,nY (show k≠1 by omega),nY (show k≠2 by omega),nY (show k≠3 by omega),nY (show k≠4 by omega),nY (show k≠5 by omega),cF]
 rw[q];exact nB (Q:=QT []) (mY .nil) (fun _=>nH 1) (args:=[.int .i64 k]) (v:=.str []) (s':=s0) rfl (axR (sp:=fun f=>gD f []) rfl x s0) rfl ⟨1,rfl⟩ G h w c d i;exact pW .nil ahZ (args':=[.int .i64 0]) rfl rfl G h w c d i;exact pW .nil ah0 (args':=[.int .i64 1]) rfl rfl G h w c d i;exact pW .nil ah1 (args':=[.int .i64 2]) rfl rfl G h w c d i;exact pW .nil ah2 (args':=[.int .i64 3]) rfl rfl G h w c d i;exact pW .nil ah3 (args':=[.int .i64 4]) rfl rfl G h w c d i;exact pW .nil ah4 (args':=[.int .i64 5]) rfl rfl G h w c d i;cases p
def tB(k:Int):Nat:=bif an k 2 then 2 else bif an k 3 then 3 else bif an k 4 then 1 else bif an k 5 then 3 else 0
def Ct:Sp
 | [.int .i64 k]=>bif bV 0 k&&aV k 6 then some (.int .i64 (tB k:Nat)) else none
 |_=>none
def ah5:nV [] 100 165 [.int .i64 0]=some (.int .i64 (tB 0:Nat),0):=by kernel_rfl
def ah6:nV [] 100 165 [.int .i64 1]=some (.int .i64 (tB 1:Nat),0):=by kernel_rfl
def ah7:nV [] 100 165 [.int .i64 2]=some (.int .i64 (tB 2:Nat),0):=by kernel_rfl
def ah8:nV [] 100 165 [.int .i64 3]=some (.int .i64 (tB 3:Nat),0):=by kernel_rfl
def ah9:nV [] 100 165 [.int .i64 4]=some (.int .i64 (tB 4:Nat),0):=by kernel_rfl
def aia:nV [] 100 165 [.int .i64 5]=some (.int .i64 (tB 5:Nat),0):=by kernel_rfl
def ap3:cQ ah 165 Ct:=by
 intro args u c G h w i j p;unfold Ct at c;split at c;rename_i k;obtain⟨q,c⟩:=aY c;injection c with c;subst c
 simp only[bV,aV,bm,dE] at q;have d:k=0\/k=1\/k=2\/k=3\/k=4\/k=5:=by omega
 rcases d with rfl|rfl|rfl|rfl|rfl|rfl
 exact pW .nil ah5 (args':=[.int .i64 0]) rfl rfl G h w i j p;exact pW .nil ah6 (args':=[.int .i64 1]) rfl rfl G h w i j p;exact pW .nil ah7 (args':=[.int .i64 2]) rfl rfl G h w i j p;exact pW .nil ah8 (args':=[.int .i64 3]) rfl rfl G h w i j p;exact pW .nil ah9 (args':=[.int .i64 4]) rfl rfl G h w i j p;exact pW .nil aia (args':=[.int .i64 5]) rfl rfl G h w i j p;cases c
def qL(x y:Int):Bool:=bV 0 x&&aV x 1048576&&bV 0 y&&aV y 1048576
def FH:Sp
 | [.agg [.int .i64 x,.int .i64 y]]=>some (.bool (qL x y))
 |_=>none
def asw{sp:g9}(h99:sp 168=none)(x y:Int)(s:St):aq (QS sp) 168 [.agg [.int .i64 x,.int .i64 y]] s (.bool (qL x y)) s:=by
 refine lu H5.1 H5.2 H5.3 H5.4 h99 ?_;refine br ?_;simp only[aU,fZ,fT,ay,cy,akW];refine br ?_;cases h1:bV 0 x with
 |false=>
  simp only[aU,bK,ai,ay,jl,x8,h1];refine dZ ⟨rfl,.inr rfl,dK ?_ rfl⟩;simp only[aW,ai, *];simp only[qL,h1,dA]
 |true=>
 cases h2:aV x 1048576 with
 |false=>
  simp only[aU,bK,ai,ay,jl,x8,h1,h2];refine dZ ⟨rfl,.inr rfl,dK ?_ rfl⟩;simp only[aW,ai, *];simp only[qL,h1,h2,gh,dA]
 |true=>
 cases h3:bV 0 y with
 |false=>
  simp only[aU,bK,ai,ay,jl,x8,BX,h1,h2,h3];refine dZ ⟨rfl,.inr rfl,dK ?_ rfl⟩;simp only[aW,ai, *];simp only[qL,h1,h2,h3,gh,dA]
 |true=>
  simp only[aU,bK,ai,ay,jl,x8,BX,h1,h2,h3];refine dZ ⟨rfl,.inr rfl,dK ?_ rfl⟩;simp only[aW,ai, *];simp only[qL,h1,h2,h3,en]
def asv:cQ ah 168 FH:=by
 intro args u c G h w d i j;unfold FH at c;split at c;rename_i x y;injection c with c;subst c
 exact nB (Q:=QT []) (mY .nil) (fun _=>nH 1) (args:=[.agg [.int .i64 x,.int .i64 y]]) (v:=.bool (qL x y)) (s':=s0) rfl (asw (sp:=fun f=>gD f []) rfl x y s0) rfl ⟨1,rfl⟩ G h w d i j;cases c
def T4:dp:=(162,Gp)::(165,Ct)::(168,FH)::(164,Dw)::T3
def SF:du T4:=.cons axP (.cons ap3 (.cons asv (.cons awD SE)))
def yD(P:Program)(t:TypeId)(off:Nat):Option aJ->Option aa
 |some (.cells cs)=>iq P t cs off
 |some (.fix (.cells cs))=>iq P t cs off
 |_=>none
theorem aP(P:Program)(mk:aI)(t:TypeId)(n off:Nat)(lc:Ag.Loc)(s:St):lM P mk t (.ptr n off) lc s=yD P t off (s.get mk n):=by
 simp only[lM];cases s.get mk n with
 |none=>rfl
 |some o=>
  cases o with
  |fix o=>cases o<;>rfl
  |_=>rfl
def Pm(P:Program)(t:TypeId)(off:Nat)(cs:List aa):yD P t off (some (.fix (.cells cs)))=iq P t cs off:=rfl
theorem aQ(P:Program)(t:TypeId)(off:Nat)(cs:List aa):yD P t off (some (.cells cs))=iq P t cs off:=rfl
noncomputable def Kc(lc:Ag.Loc)(s:St)(m off:Nat)(v:aa):Option aJ->Option (Ag.Loc×St)
 |some (.cells cs)=>(eM cs off v.cells).bind fun c=>some (lc,s.put m (some (.cells c)))
 |_=>none
def cO(P:Program)(mk:aI)(t:TypeId)(m off:Nat)(v:aa)(lc:Ag.Loc)(s:St):tR P mk t (.ptr m off) v lc s=(df P t).bind fun n=>bif aK v.cells.length n&&bh 0 n then Kc lc s m off v (s.get mk m) else none:=by
 simp only[tR];cases s.get mk m with
 |none=>rfl
 |some o=>cases o<;>rfl
def cS(lc:Ag.Loc)(s:St)(m off:Nat)(v:aa)(cs:List aa):Kc lc s m off v (some (.cells cs))=(eM cs off v.cells).bind fun c=>some (lc,s.put m (some (.cells c))):=rfl
variable{fr:Fr}{N:Fr->St->Prop}{args:List aa}{l:List au}
section
variable{Q:aD}{f:FuncId}
def KX(n:Nat)(h:WP Q f (l.take n) fr s fun fr s=>WL Q f (l.drop n) fr s N):WL Q f l fr s N:=by
 obtain⟨i,j,d,c⟩:=h
 have:=WL.app d c;rwa [List.take_append_drop] at this
def KW{d:Tmp}{x:Operand}{av:Array Operand}{c:Array TypeId}{e:aw}{sz:Nat}{lc:Ag.Loc}{s1:St}{g:FuncId}(p:callee e ⟨.value x,av,c⟩=some (g,args))(h:aq Q g args s v s1)(j:d<sz)(i:WL Q f l ⟨e.set d (some v),sz,lc⟩ s1 N):
 WL Q f (⟨some d,.call ⟨.value x,av,c⟩,.aw⟩::l) ⟨e,sz,lc⟩ s N:=
 WL.call rfl rfl (fun b=>by simp) p h (fU.2 ⟨j,rfl⟩) i
def KV(h:WP Q f l fr s N):WL Q f l fr s N:=let⟨_,_,h1,h2⟩:=h;WL.run h1 h2
end
structure Obj where
 id:ae
 uP:Int
 x:Int
 y:Int
 refsV:aa
 tagsV:aa
 gE:List ae
 gT:List fO
def Obj.cells(o:Obj):List aa:=[.str o.id,.int .i64 o.uP,.int .i64 o.x,.int .i64 o.y,o.refsV,o.tagsV]
def Obj.val(o:Obj):aa:=.agg o.cells
structure Obj.Ok (o:Obj):Prop where
 gE:ax 1 aA o.refsV o.gE
 gT:ax 2 ki o.tagsV o.gT
 id:o.id.length<small
 reflen:o.gE.length<small
 ref: ∀r∈o.gE,r.length<small
 taglen:o.gT.length<small
 key: ∀t∈o.gT,t.1.length<small
def vn(c:List ae):List (ae×aa):=c.map fun k=>(k,.bool true)
def Zi(k:ae): ∀c,look k (vn c)=bif c.contains k then some (.bool true) else none
 | []=>rfl
 |a::c=>by
  have d:=Zi k c;simp only[vn,eA,look,Gu] at d ⊢;rw[d];cases k==a<;>simp
def aqO(k:ae)(c:List ae):(look k (vn c)).getD (.bool false)= .bool (c.contains k):=by
 rw[Zi];cases c.contains k<;>rfl
def zN(k:ae)(c:List ae):List ae:=bif c.contains k then c else c++[k]
def WS(k:ae): ∀c,tl k (.bool true) (vn c)=vn (zN k c)
 | []=>rfl
 |a::c=>by
  have d:=WS k c;simp only[vn,eA,tl,zN,Gu] at d ⊢;cases h:k==a with
  |true=>
   have:k=a:=by simpa using h
   subst this;simp
  |false=>
   simp only[cF,hZ,d];cases c.contains k<;>simp
def DB(uP:Int)(last:ae)(seen:List ae)(r:ae):Bool:=((an uP 2&&(r==last))||(an uP 3&&seen.contains r))|| !jA r
structure nI (s:St) (o:Obj) (po pl ps m:Nat) (last:ae) (seen:List ae):Prop where
 ho:s.get [] po=some (.cells o.cells)
 hl:s.get [] pl=some (.cells [.str last])
 hs:s.get [] ps=some (.cells [.map m])
 hm:s.get [] m=some (.map (mV 0 (vn seen)) (vn seen).length)
 d1:(pl==m)=false
 d2:(po==m)=false
 d3:(po==pl)=false
 d4:(ps==m)=false
 d5:(ps==pl)=false
 d6:(m==pl)=false
noncomputable def nI.aL(s:St)(pl m:Nat)(seen:List ae)(r:ae):St:=(s.put m (some (.map (mV 0 (vn (zN r seen))) (vn (zN r seen)).length))).put pl (some (.cells [.str r]))
variable{seen:List ae}{pl po ps:Nat}{o:Obj}{last:ae}
def nI.after(c:nI s o po pl ps m last seen)(r:ae):nI (nI.aL s pl m seen r) o po pl ps m r (zN r seen):=by
 refine⟨?_,?_,?_,?_,c.d1,c.d2,c.d3,c.d4,c.d5,c.d6⟩<;>simp only[nI.aL,aR,c.d1,c.d2,c.d3,c.d4,c.d5,c.d6,bS,cT,cF,c.ho,c.hs]
section
variable{sp:g9}(h94:sp 163=some kO)
include h94
theorem axW(h97:sp 166=none)(c:nI s o po pl ps m last seen){r:ae}(C:r.length<small):
 aq (QS sp) 166 [.str r,.ptr po 0,.ptr pl 0,.ptr ps 0] s (.bool (DB o.uP last seen r)) (nI.aL s pl m seen r):=by
 have u:=AC C;have h:=aqQ Hk wN DE c.hm r;rw[aqO] at h;have i:=axt Hk wN c.hm r (.bool true);rw[WS] at i;have j:=c.ho;have p:=c.hl;have q:=c.hs;have F:=c.d1;refine lu H4.1 H4.2 H4.3 H4.4 h97 ?_;refine br ?_;simp only[aU,fZ,fT,ay,bG,cy];refine br ?_;have d: ∀e b,ac e 0= .str r->ac e 1= .ptr po 0->ac e 2= .ptr pl 0->ac e 3= .ptr ps 0->ac e 6= .bool b->b=((an o.uP 2&&(r==last))||(an o.uP 3&&seen.contains r))->W (QS sp) 166 (.seq (.region anp) (.seq (.region anq) .ret)) ⟨e,34,[]⟩ s fun x w y=>y=nI.aL s pl m seen r/\(x= .normal\/x= .ret)/\ ∃vs,iu (QS sp) [] w y [.tmp 5]=some vs/\nq vs= .bool (DB o.uP last seen r):=by
  intro e b B G E D A z;refine br ?_;simp only[aU,jK,eM,cM,bK,ai,ay,cy,C6,aP,aQ,cO,cS,aR,B,E,D,q,p,i,F];refine br ?_;cases b with
  |true=>
   simp only[aU,ai,ay,A];refine dZ ⟨rfl,.inr rfl,dK ?_ rfl⟩;simp only[aW,ai, *];simp only[DB,<-z,gZ]
  |false=>
   simp only[aU,ai,ay,B,A,h94,u];refine dZ ⟨rfl,.inr rfl,dK ?_ rfl⟩;simp only[aW,ai, *];simp only[DB,<-z,hZ]
 cases hk2:an o.uP 2 with
 |true=>
  cases he:r==last with
  |true=>
   simp only[aU,bK,ai,ay,jl,gR,oK,aP,aQ,j,p,Obj.cells,hk2,he];refine d _ true ?_ ?_ ?_ ?_ ?_ (by simp only[hk2,he,bW,gZ])<;>simp only[aW,ai, *]
  |false=>
   cases hk3:an o.uP 3 with
   |true=>
    simp only[aU,bK,ai,ay,jl,gR,C6,oK,aP,aQ,j,q,p,Obj.cells,hk2,he,hk3,h];refine d _ (seen.contains r) ?_ ?_ ?_ ?_ ?_ (by simp only[hk2,he,hk3,gh,hZ,en])<;>simp only[aW,ai, *]
   |false=>
    simp only[aU,bK,ai,ay,jl,gR,oK,aP,aQ,j,p,Obj.cells,hk2,he,hk3];refine d _ false ?_ ?_ ?_ ?_ ?_ (by simp only[hk2,he,hk3,gh,hZ,dA])<;>simp only[aW,ai, *]
 |false=>
  cases hk3:an o.uP 3 with
  |true=>
   simp only[aU,bK,ai,ay,jl,C6,oK,aP,aQ,j,q,Obj.cells,hk2,hk3,h];refine d _ (seen.contains r) ?_ ?_ ?_ ?_ ?_ (by simp only[hk2,hk3,dA,hZ,en])<;>simp only[aW,ai, *]
  |false=>
   simp only[aU,bK,ai,ay,jl,oK,aP,aQ,j,Obj.cells,hk2,hk3];refine d _ false ?_ ?_ ?_ ?_ ?_ (by simp only[hk2,hk3,hZ,dA])<;>simp only[aW,ai, *]
end
def aq.ofEx{Q:aD}{f:FuncId}{fn:Func}{j:SC}{rs:List ResultVar}{R:aa->St->Prop}(w:Q.P.funcs[f]? =some fn)(y:fn.body.map dJ=some j)(u:fn.ntmps=n)(q:fn.results.toList=rs)(i:Q.spec f=none)(h:W Q f j (fZ n args) s fun x c d=>(x= .normal\/x= .ret)/\ ∃v,(∃vs,iu Q [] c d rs=some vs/\nq vs=v)/\R v d)(A:Q.specH f=none:=by rfl)(z:Q.specW f=none:=by rfl): ∃v p,aq Q f args s v p/\R v p:=by
 obtain⟨x,c,d,E,D,v,C,B⟩:=h;exact⟨v,d,lu w y u q i ⟨x,c,d,E,rfl,D,C⟩ A z,B⟩
def o9(uP:Int):ae->List ae->List ae->Bool
 |_,_,[]=>false
 |last,seen,r::rs=>DB uP last seen r||o9 uP r (zN r seen) rs
def BK(po pl ps:Nat):aa:=.func (.func 166) [] [.ptr po 0,.ptr pl 0,.ptr ps 0]
def UO(po pl ps:Nat):(BK po pl ps).ge=true:=rfl
variable{l:List ae}
section
variable{sp:g9}(h94:sp 163=some kO)(h97:sp 166=none)
include h94 h97
theorem amh(G:ax 1 aA v l)(O: ∀r∈l,r.length<small)(A:l.length<small): ∀(j d:List ae) (e:aw) (lc:Ag.Loc) (s:St) (last:ae) (seen:List ae),l=d++j->nI s o po pl ps m last seen->
 ac e 0=v->ac e 1=BK po pl ps->ac e 7= .int .i64 (l.length:Nat)->ac e 8= .int .i64 (d.length:Nat)->
 W (QS sp) 261 (.loop Ih) ⟨e,19,lc⟩ s fun x fr F=>(∃u q,nI F o po pl ps m u q)/\F.ci=s.ci/\fr.size=19/\((x= .exit 0/\o9 o.uP last seen j=false)\/(x= .ret/\(∃i:Nat,ac fr.env 4= .int .i64 (i:Int))/\o9 o.uP last seen j=true)):=by
 intro j
 induction j with
 |nil=>
  intro d e lc s last seen p c I H E z;have w:l.length=d.length:=by rw[p];simp
  refine kq ?_;refine br ?_;simp only[aU,ay,E,z,w,cq];refine cK (W.cnFZ ?_);exact W.exit ⟨⟨last,seen,c⟩,rfl,rfl,.inl ⟨rfl,rfl⟩⟩
 |cons r j J=>
  intro d e lc s last seen p c I H E z;have C:d.length<l.length:=by rw[p];simp
  have y:l[d.length]? =some r:=by rw[p];simp
  have D:=fun lc=>G.at co.2.2.1 y lc .i64;have R:=G.ge;have M:=O r (dB y);have K:=i6;have B:=vD (n:=d.length) (by omega);refine kq ?_;refine br ?_;simp only[aU,ay,E,z,C];refine cK (lw (lY ?_));refine cK (jX ?_);refine br ?_;simp only[aU,ai,ay,z];refine cK (W.region (KX 5 ?_));simp only[aU,cM,bK,ai,ay,gR,I,H,D,aA];refine KW (g:=166) (args:=[.str r,.ptr po 0,.ptr pl 0,.ptr ps 0]) ?_ (axW h94 h97 c M) (by decide) ?_;simp only[aU,callee,BK,ai];refine KV ?_;simp only[DZ,fJ];cases hw:DB o.uP last seen r with
  |true=>
   refine lw (br ?_);simp only[aU,ai,ay];refine dZ ⟨⟨_,_,c.after r⟩,rfl,rfl,.inr ⟨rfl,⟨d.length,?_⟩,by simp[o9,hw]⟩⟩;simp only[aW,ai, *]
  |false=>
   refine kX ?_;simp only[rq,fJ];refine W.reg ?_;simp only[aU,js,ai,ay,z,B];refine(J (d++[r]) _ _ _ r (zN r seen) (by rw[p];simp) (c.after r) (by simp only[dh,ai, *]) (by simp only[dh,ai, *]) (by simp only[dh,ai, *]) (by simp only[aW,fh,ai,cD])).mono ?_;simp only[o9,hw,hZ];exact fun _ _ _ h=>h
theorem ami(h157:sp 261=none)(B:ax 1 aA v l)(G: ∀r∈l,r.length<small)(d:l.length<small)(c:nI s o po pl ps m last seen):
 ∃u y,aq (QS sp) 261 [v,BK po pl ps] s u y/\((∃j h,nI y o po pl ps m j h)/\y.ci=s.ci/\ ∃z:Int,u= .int .i64 z/\bV 0 z=o9 o.uP last seen l):=by
 have q:=fun F s=>B.lenS co F s;have C:=B.ge;refine aq.ofEx EZ.1 EZ.2 EZ.3 EZ.4 h157 ?_;refine br ?_;simp only[aU,fZ,fT,ay,bG,cy];refine cK (br ?_);simp only[aU,ai,ay,C,q];refine jX ?_;refine(amh h94 h97 B G d l [] _ _ s last seen rfl c (by simp only[aW,ai, *]) (by simp only[aW,ai, *]) (by simp only[aW,ai, *]) (by simp only[aW,ai];rfl)).mono ?_;rintro x ⟨e,E,I⟩ y ⟨D,w,A,⟨rfl,p⟩|⟨rfl,⟨i,H⟩,p⟩⟩;have A:E=19:=A;subst A;show W (QS sp) 261 _ _ _ _;refine br ?_;simp only[iA,ni,ay];refine dZ ⟨.inr rfl,.int .i64 (-1),dK ?_ rfl,D,w, -1,rfl,by rw[p];rfl⟩;simp only[iV,ai,cT, *];exact⟨.inr rfl,.int .i64 i,dK H rfl,D,w,i,rfl,by rw[p];simp[bV]⟩
theorem akx(h157:sp 261=none)(h98:sp 167=none)(w:ax 1 aA v l)(A: ∀r∈l,r.length<small)(d:l.length<small)(c:nI s o po pl ps m last seen):
 ∃u j,aq (QS sp) 167 [v,BK po pl ps] s u j/\((∃i h,nI j o po pl ps m i h)/\j.ci=s.ci/\u= .bool (o9 o.uP last seen l)):=by
 obtain⟨u,C,y,B,q,z,rfl,x⟩:=ami h94 h97 h157 w A d c;have p:=w.ge;refine aq.ofEx EM.1 EM.2 EM.3 EM.4 h98 ?_;refine br ?_;simp only[aU,fZ,fT,ay,bG,cy];refine cK (W.region (KX 2 ?_));simp only[aU,cM,bK,ai,ay];refine KW (g:=261) ?_ y (by decide) ?_;simp only[aU,callee,p,UO,ai];refine KV ?_;simp only[aU,js,ai,ay,x];refine dZ ⟨.inr rfl,_,dK (v:=.bool (o9 o.uP last seen l)) ?_ rfl,B,q,rfl⟩;simp only[aW,ai, *]
end
def nX(o:Obj):Bool:=(oZ o.uP== [])|| !jA o.id|| !lR o.gT||decide (o.gE.length<tB o.uP)||decide (2000<o.gE.length)
def DC(o:Obj):Bool:=an o.x 0&&an o.y 0
def fS(o:Obj):Bool:=bif nX o then false else bif o9 o.uP [] [] o.gE then false else bif an o.uP 1 then(o.gE.length==0)&&qL o.x o.y else bif an o.uP 5 then(o.gE.length==3)&&DC o else DC o
def Lg(P:Program)(t:TypeId)(a b:List aa):dI P .eql t (.agg a) (.agg b)=(wh P t (.agg a) (.agg b)).bind fun b=>some (.bool b):=rfl
def ae4(P:Program)(t:TypeId)(a b:List aa):dI P .neq t (.agg a) (.agg b)=(wh P t (.agg a) (.agg b)).bind fun b=>some (.bool !b):=rfl
def Qm(a b c d:Int):dI ah .eql 49 (.agg [.int .i64 a,.int .i64 b]) (.agg [.int .i64 c,.int .i64 d])=some (.bool (bif an a c then bif an b d then true else false else false)):=by
 have h:wh ah 49 (.agg [.int .i64 a,.int .i64 b]) (.agg [.int .i64 c,.int .i64 d])=(some (an a c)).bind fun r=>bif r then(some (an b d)).bind fun r=>bif r then some true else some false else some false:=by kernel_rfl
 rw[Lg,h];cases an a c<;>cases an b d<;>rfl
def aby(a b:Int):(bif an a 0 then bif an b 0 then true else false else false)=(an a 0&&an b 0):=by
 cases an a 0<;>cases an b 0<;>rfl
def axQ(h:(oZ k== [])=false):(bV 0 k&&aV k 6)=true:=by
 by_cases h1:0<=k/\k<6;simp[bV,aV,h1.1,h1.2];have c:oZ k=[]:=by
  simp only[oZ,nY (show k≠1 by omega),nY (show k≠2 by omega),nY (show k≠3 by omega),nY (show k≠4 by omega),nY (show k≠5 by omega),cF]
 rw[c] at h;cases h
def B9(s:St)(mk:aI)(n:Nat):s.top.get mk n=s.get mk n:=rfl
def ap2(h:(bV 0 k&&aV k 6)=true):Ct [.int .i64 k]=some (.int .i64 (tB k:Nat)):=by
 simp only[Ct,h,cT]
section
variable{sp:g9}(h93:sp 162=some Gp)(h94:sp 163=some kO)(h95:sp 164=some Dw)(h96:sp 165=some Ct)(h99:sp 168=some FH)(h97:sp 166=none)(h98:sp 167=none)(h157:sp 261=none)
include h93 h94 h95 h96 h99 h97 h98 h157
theorem asa(h48:sp 75=none)(z:o.Ok): ∃v A,aq (QS sp) 75 [o.val] s0 v A/\(v= .bool (fS o)/\A.ci=0):=by
 have q:=AC z.id;have B:=awC z.gT z.taglen z.key;have p:Gp [.int .i64 o.uP]=some (.str (oZ o.uP)):=rfl;have i:=fun mk s=>z.gE.lenS co mk s;have j:=z.gE.ge;have C:=z.gT.ge;refine aq.ofEx IV.1 IV.2 IV.3 IV.4 h48 ?_;refine br ?_;simp only[aU,fZ,fT,ay,cy,Nk,Obj.val];have V:s0.aL=0:=rfl;have T: ∃w,s0.new (.cells o.cells)=w/\w.get [] 0=some (.cells o.cells)/\w.gt<=w.aL/\w.aL=1/\w.ci=0:=⟨_,rfl,by rw[eT];rfl,Nat.zero_le _,rfl,rfl⟩;obtain⟨w,e1,F,m1,O,H⟩:=T;rw[e1,V];refine cK (W.sdrawQ m1 ?_);have fin: ∀e Y,ac e 36= .bool true->W (QS sp) 75 (.cond (aB 36) (.seq (.region apM) .ret) .skip) ⟨e,72,Y⟩ w fun x fr A=>x= .ret/\A=w/\ac fr.env 2= .bool false:=by
  intro e Y h;refine jc (t:=true) (by simp only[dR,h]) (br ?_);simp only[iA,rR,ay];exact dZ ⟨rfl,rfl,by simp only[iV,ai,cT, *]⟩
 cases hb1:oZ o.uP== [] with
 |true=>
  simp only[aU,isStore,bK,ai,ay,jl,oK,aP,aQ,B9,F,Obj.cells,h93,p,hb1];refine(fin _ _ ?_).mono ?_;simp only[aW,ai, *];rintro x fr A ⟨rfl,rfl,h⟩;exact⟨.inr rfl,_,dK h rfl,by simp[fS,nX,hb1],H⟩
 |false=>
 have hk:=axQ hb1;have E:=ap2 hk;cases hb2:jA o.id with
 |false=>
  simp only[aU,isStore,bK,ai,ay,jl,gR,qu,oK,aP,aQ,B9,F,Obj.cells,h93,p,hb1,h94,q,hb2];refine(fin _ _ ?_).mono ?_;simp only[aW,ai, *];rintro x fr A ⟨rfl,rfl,h⟩;exact⟨.inr rfl,_,dK h rfl,by simp[fS,nX,hb2],H⟩
 |true=>
 cases hb3:lR o.gT with
 |false=>
  simp only[aU,isStore,bK,ai,ay,jl,gR,qR,qu,oK,qv,aP,aQ,B9,F,Obj.cells,h93,p,hb1,h94,q,hb2,h95,B,C,hb3];refine(fin _ _ ?_).mono ?_;simp only[aW,ai, *];rintro x fr A ⟨rfl,rfl,h⟩;exact⟨.inr rfl,_,dK h rfl,by simp[fS,nX,hb3],H⟩
 |true=>
 cases hb4:decide (o.gE.length<tB o.uP) with
 |true=>
  simp only[aU,isStore,bK,ai,ay,jl,gR,mG,qR,qu,oK,mj,qv,aP,aQ,B9,F,Obj.cells,h93,p,hb1,h94,q,hb2,h95,B,C,hb3,j,i,h96,E,hb4];refine(fin _ _ ?_).mono ?_;simp only[aW,ai, *];rintro x fr A ⟨rfl,rfl,h⟩;exact⟨.inr rfl,_,dK h rfl,by simp[fS,nX,hb4],H⟩
 |false=>
 have I:aV 2000 (o.gE.length:Nat)=decide (2000<o.gE.length):=yj 2000 _;cases hb5:decide (2000<o.gE.length) with
 |true=>
  simp only[aU,isStore,bK,ai,ay,jl,gR,mG,qR,qu,oK,mj,qv,aP,aQ,B9,F,Obj.cells,h93,p,hb1,h94,q,hb2,h95,B,C,hb3,j,i,h96,E,hb4,I,hb5];refine(fin _ _ ?_).mono ?_;simp only[aW,ai, *];rintro x fr A ⟨rfl,rfl,h⟩;exact⟨.inr rfl,_,dK h rfl,by simp[fS,nX,hb5],H⟩
 |false=>
 have c:nX o=false:=by simp only[nX,hb1,hb2,hb3,hb4,hb5];rfl
 simp only[aU,isStore,bK,ai,ay,jl,gR,mG,qR,qu,oK,mj,qv,aP,aQ,B9,F,Obj.cells,h93,p,hb1,h94,q,hb2,h95,B,C,hb3,j,i,h96,E,hb4,I,hb5];refine kX ?_;simp only[fJ];refine br ?_;simp only[aU,jK,eM,cM,bK,ai,ay,bG,cy,Nk,mz,cO,eT,PN,O,cS,aa.cells];refine br ?_;simp only[aU,jK,eM,cM,bK,ai,ay,bG,cy,Nk,cO,eT,aR,PN,mA,O,cS];refine br ?_;simp only[aU,ai,ay,pD];have S: ∃K,((((w.new (.map [] 0)).new (.cells [.nilm])).put 2 (some (.cells [.map 1]))).new (.cells [.str []])).put 3 (some (.cells [.str []]))=K/\nI K o 0 3 2 1 [] []/\K.ci=0:=by
  refine⟨_,rfl,⟨?_,?_,?_,?_,rfl,rfl,rfl,rfl,rfl,rfl⟩,H⟩<;>simp only[eT,aR,PN,mA,O,F,ai,bG,cT,cF]<;>rfl
 obtain⟨K,e2,D,c2⟩:=S;rw[e2];obtain⟨u,s3,hr,⟨R,M,c3⟩,d,rfl⟩:=akx h94 h97 h157 h98 z.gE z.ref z.reflen D;have g2:=D.ho;have G:=c3.ho;have d:s3.ci=0:=d.trans c2;have J:aa.func (.func 166) [] [.ptr 0 0,.ptr 3 0,.ptr 2 0]=BK 0 3 2:=rfl;rw[J];refine cK (cK (W.region (KX 3 ?_)));simp only[aU,cM,bK,ai,ay,mG,mj,aP,aQ,g2,Obj.cells];refine KW (g:=167) ?_ hr (by decide) ?_;simp only[aU,j,UO,ai];refine KV ?_;simp only[DZ,fJ];cases hw:o9 o.uP [] [] o.gE with
 |true=>
  refine lw (br ?_);simp only[iA,rR,ay];refine dZ ⟨.inr rfl,_,dK (v:=.bool false) ?_ rfl,?_,d⟩;simp only[aW,ai, *];simp[fS,c,hw]
 |false=>
 refine kX ?_;simp only[fJ];refine cK (br ?_);simp only[aU,bK,ai,ay,jl,oK,aP,aQ,G,Obj.cells];refine jX (br ?_);simp only[aU,ai,ay];have e0:an (o.gE.length:Int) 0=(o.gE.length==0):=Ce _ 0;have Z:an (o.gE.length:Int) 3=(o.gE.length==3):=Ce _ 3;cases hk1:an o.uP 1 with
 |true=>
  refine lw (br ?_);have U:FH [.agg [.int .i64 o.x,.int .i64 o.y]]=some (.bool (qL o.x o.y)):=rfl;cases hz:o.gE.length==0 with
  |true=>
   simp only[aU,cut,cM,bK,ai,ay,bG,mG,C7,BZ,mj,aP,aQ,G,Obj.cells,j,i,e0,hz,h99,U];refine dZ ⟨.inr rfl,_,dK (v:=.bool (qL o.x o.y)) ?_ rfl,?_,d⟩;simp only[aW,ai, *];simp[fS,c,hw,hk1,hz]
  |false=>
   simp only[aU,bK,ai,ay,mG,mj,aP,aQ,G,Obj.cells,j,i,e0,hz];refine dZ ⟨.inr rfl,_,dK (v:=.bool false) ?_ rfl,?_,d⟩;simp only[aW,ai, *];simp[fS,c,hw,hk1,hz]
 |false=>
  refine W.cnFZ (br ?_);simp only[aU,ai,ay];cases hk5:an o.uP 5 with
  |true=>
   refine lw (br ?_);cases hz:o.gE.length==3 with
   |true=>
    simp only[aU,jK,cut,cM,bK,ai,ay,bG,D4,mG,C7,BZ,mj,aP,aQ,G,Obj.cells,j,i,Z,hz,bc,Qm,aby];refine dZ ⟨.inr rfl,_,dK (v:=.bool (an o.x 0&&an o.y 0)) ?_ rfl,?_,d⟩;simp only[aW,ai, *];simp[fS,c,hw,hk1,hk5,hz,DC]
   |false=>
    simp only[aU,bK,ai,ay,mG,mj,aP,aQ,G,Obj.cells,j,i,Z,hz];refine dZ ⟨.inr rfl,_,dK (v:=.bool false) ?_ rfl,?_,d⟩;simp only[aW,ai, *];simp[fS,c,hw,hk1,hk5,hz]
  |false=>
   refine kX ?_;simp only[rq,fJ];refine br ?_;simp only[aU,jK,cut,cM,bK,ai,ay,bG,D4,C7,BZ,aP,aQ,G,Obj.cells,bc,Qm,aby];refine dZ ⟨.inr rfl,_,dK (v:=.bool (an o.x 0&&an o.y 0)) ?_ rfl,?_,d⟩;simp only[aW,ai, *];simp[fS,c,hw,hk1,hk5,DC]
end
def Dl:List ae->Bool
 | []=>true
 |t::l=>bh t.length small&&Dl l
def acw: ∀ {l:List ae},Dl l=true-> ∀t∈l,t.length<small
 | [],_,_,h=>by cases h
 |a::l,h,t,c=>by
  simp only[Dl,bm] at h;rcases dl.1 c with rfl|c
  exact fF h.1;exact acw h.2 t c
def acx: ∀ {l:List ae},(∀t∈l,t.length<small)->Dl l=true
 | [],_=>rfl
 |a::l,h=>by
  simp only[Dl,bm];exact⟨cE (h a (by simp)),acx fun t c=>h t (by simp[c])⟩
def Jd(id:ae)(k x y:Int)(rv d:aa)(rs:List ae)(c:List fO):Option Obj:=
 bif bH rv&&bH d&&bh id.length small&&bh rs.length small&&Dl rs&&bh c.length small&&A3 c then some ⟨id,k,x,y,rv,d,rs,c⟩ else none
def vS:aa->Option Obj
 | .agg [.str id,.int .i64 k,.int .i64 x,.int .i64 y,rv,tv]=>(ek 1 iL rv).bind fun d=>(ek 2 ur tv).bind fun c=>Jd id k x y rv tv d c
 |_=>none
structure Obj.Al (o:Obj):Prop extends o.Ok where
 pr:bH o.refsV=true
 pt:bH o.tagsV=true
def GZ(h:vS v=some o):v=o.val/\o.Al:=by
 unfold vS at h;split at h;simp only[aj] at h;obtain⟨A,y,z,x,h⟩:=h;unfold Jd at h;obtain⟨c,h⟩:=aY h;simp only[bm] at c;obtain⟨⟨⟨⟨⟨⟨w,u⟩,q⟩,p⟩,j⟩,i⟩,d⟩:=c;injection h with h
 subst h;exact⟨rfl,⟨⟨jN (fun v a=>pf) y,jN (fun v a=>Ls) x,fF q,fF p,acw j,fF i,Q5 d⟩,w,u⟩⟩;cases h
def TI(h:o.Al):vS o.val=some o:=by
 show((ek 1 iL o.refsV).bind fun d=>(ek 2 ur o.tagsV).bind fun c=>Jd o.id o.uP o.x o.y o.refsV o.tagsV d c)=_;rw[pA pg h.gE,bg,pA Lu h.gT,bg];unfold Jd;have p:bh o.id.length small=true:=cE h.id;have j:bh o.gE.length small=true:=cE h.reflen;have i:bh o.gT.length small=true:=cE h.taglen;rw[h.pr,h.pt,p,j,i,acx h.ref,Q6 h.key];rfl
def Obj.Al.pure(h:o.Al):bH o.val=true:=by
 simp only[Obj.val,Obj.cells,bH,pures,h.pr,h.pt,bW]
mutual
def adb: ∀ {v:aa},bH v=true->dL v=true
 | .agg cs,h=>by simp only[dL];exact xi (by simpa only[bH] using h)
 | .tup cs,h=>by simp only[dL];exact xi (by simpa only[bH] using h)
 | .list _ xs r,h=>by
   simp only[bH,bm] at h;simp only[dL];exact h.1
 | .bool _,_=>rfl
 | .int _ _,_=>rfl
 | .str _,_=>rfl
 | .nilp,_=>rfl
 | .ptr _ _,h=>by simp[bH] at h
 | .Ge _ _ _,h=>by simp[bH] at h
 | .ro cs,h=>by simpa only[dL] using h
 | .AL,_=>rfl
 | .arr _ _ _ _ _,h=>by simp[bH] at h
 | .nilm,_=>rfl
 | .map _,h=>by simp[bH] at h
 | .nilf,_=>rfl
 | .func _ _ _,h=>by simpa only[dL] using h
 | .nili,_=>rfl
 | .iface _ _,h=>by simpa only[dL] using h
def xi: ∀ {l:List aa},pures l=true->ei l=true
 | [],_=>rfl
 |v::l,h=>by
  simp only[pures,bm] at h;simp only[ei,adb h.1,xi h.2,bW]
end
def FC:Sp
 | [v]=>(vS v).bind fun o=>some (.bool (fS o))
 |_=>none
def ar5(h:o.Al):FC [o.val]=some (.bool (fS o)):=by
 show(vS o.val).bind _=_;rw[TI h];rfl
def ar6:cQ ah 75 FC:=by
 intro args u c G h w j p q;unfold FC at c;split at c;rename_i v;simp only[aj,aH] at c;obtain⟨o,z,rfl⟩:=c;obtain⟨rfl,d⟩:=GZ z;obtain⟨v,s',y,rfl,i⟩:=asa (sp:=fun f=>gD f T4) rfl rfl rfl rfl rfl rfl rfl rfl rfl d.toOk;have x:dz [o.val]=[o.val]:=kC (by simp only[pures,d.pure,bW]);refine nB (Q:=QT T4) (mY SF) (fun _=>nH 1) (args:=[o.val]) (v:=.bool (fS o)) (s':=s') ?_ (by rw[x];exact y) i ⟨1,rfl⟩ G h w j p q;exact xi (by simp only[pures,d.pure,bW]);cases c
def nh:ae->List Obj->Bool
 |_,[]=>true
 |last,o::r=>bif !fS o||Ag.leBytes o.id last then false else nh o.id r
def cZ(l:List Obj):Bool:=nh [] l&&decide (l.length<=1000000)
variable{l:List Obj}
section
variable{sp:g9}(h48:sp 75=some FC)
include h48
theorem aqW(J:ax 6 Obj.val v l)(R: ∀o∈l,o.Al)(z:l.length<small): ∀(c d:List Obj) (e:aw) (lc:Ag.Loc) (last:ae),l=d++c->
 ac e 1= .Ge 1 1 0->lc.gen 1=1->lc.get 1 1=some [v]->ac e 7=v->ac e 8= .int .i64 (l.length:Nat)->ac e 9= .int .i64 (d.length:Nat)->ac e 3= .str last->
 W (QS sp) 31 (.loop aoI) ⟨e,29,lc⟩ s fun x fr p=>p=s/\fr.size=29/\((x= .exit 0/\ac fr.env 1= .Ge 1 1 0/\fr.loc.gen 1=1/\fr.loc.get 1 1=some [v]/\nh last c=true)\/(x= .ret/\ac fr.env 2= .bool false/\nh last c=false)):=by
 intro c
 induction c with
 |nil=>
  intro d e lc last i T E F K G y H;have u:l.length=d.length:=by rw[i];simp
  refine kq ?_;refine br ?_;simp only[aU,ay,G,y,u,cq];refine cK (W.cnFZ ?_);refine W.exit ⟨rfl,rfl,.inl ⟨rfl,?_,E,F,rfl⟩⟩;simp only[dh,ai, *]
 |cons o c M=>
  intro d e lc last i T E F K G y H;have C:d.length<l.length:=by rw[i];simp
  have w:l[d.length]? =some o:=by rw[i];simp
  have D:=fun lc=>J.at fD.2.2.1 w lc .i64;have S:=J.ge;have j:=ar5 (R o (dB w));have O:=i6;have A:=vD (n:=d.length) (by omega);simp only[Obj.val,Obj.cells] at j;refine kq ?_;refine br ?_;simp only[aU,ay,G,y,C];refine cK (lw (lY ?_));simp only[fJ];refine cK (jX ?_);refine br ?_;simp only[aU,jK,cut,eM,cM,bK,ai,ay,bG,cy,yT,Wn,K,y,D,Obj.val,Obj.cells];refine cK (br ?_);have fin: ∀I q,ac I 21= .bool true->W (QS sp) 31 (.cond (aB 21) (.seq (.region aoJ) .ret) .skip) ⟨I,29,q⟩ s fun x fr p=>x= .ret/\p=s/\fr.size=29/\ac fr.env 2= .bool false:=by
   intro I q h;refine jc (t:=true) (by simp only[dR,h]) (br ?_);simp only[iA,rR,ay];exact dZ ⟨rfl,rfl,rfl,by simp only[iV,ai,cT, *]⟩
  cases hb1:fS o with
  |false=>
   simp only[aU,cut,cM,bK,ai,ay,bG,yT,h48,j,hb1];refine(fin _ _ ?_).mono ?_;simp only[aW,ai, *];rintro x fr p ⟨rfl,rfl,B,h⟩;exact⟨rfl,B,.inr ⟨rfl,h,by simp[nh,hb1]⟩⟩
  |true=>
  cases hb2:Ag.leBytes o.id last with
  |true=>
   simp only[aU,cut,cM,bK,ai,ay,bG,gR,yT,qu,h48,j,hb1,hb2,H];refine(fin _ _ ?_).mono ?_;simp only[aW,ai, *];rintro x fr p ⟨rfl,rfl,B,h⟩;exact⟨rfl,B,.inr ⟨rfl,h,by simp[nh,hb2]⟩⟩
  |false=>
   simp only[aU,cut,cM,bK,ai,ay,bG,gR,yT,qu,h48,j,hb1,hb2,H];refine kX ?_;simp only[fJ];refine W.reg ?_;simp only[aU,js,bK,ai,ay,gR,qu];refine W.reg ?_;simp only[aU,js,ai,ay,y,A];refine(M (d++[o]) _ _ o.id (by rw[i];simp) (by simp only[dh,ai, *]) (by simp only[gw,ai,cF,E]) (by simp only[gI,ai,cF,F]) (by simp only[dh,ai, *]) (by simp only[dh,ai, *]) (by simp only[aW,fh,ai,cD]) (by simp only[aW,ai, *])).mono ?_;simp only[nh,hb1,hb2,Bool.not_true,hZ,cF];exact fun _ _ _ h=>h
theorem aq0(w:sp 31=none)(p:ax 6 Obj.val v l)(C: ∀o∈l,o.Al)(c:l.length<small)(s:St):aq (QS sp) 31 [.agg [v]] s (.bool (cZ l)) s:=by
 have d:=fun B s=>p.lenS fD B s;have i:=p.ge;refine lu It.1 It.2 It.3 It.4 w ?_;refine br ?_;simp only[aU,fZ,fT,ay,cy,Wn];refine br ?_;simp only[iA,FE,ay];refine cK (br ?_);simp only[aU,bK,ai,ay,w6,wq,i,d];refine jX ?_;refine(aqW h48 p C c l [] _ _ [] rfl (by simp only[aW,ai, *]) (by simp only[uM,gw,ai,cT]) (by simp only[gI,ai,cT]) (by simp only[aW,ai, *]) (by simp only[aW,ai, *]) (by simp only[aW,ai];rfl) (by simp only[aW,ai, *])).mono ?_;rintro x ⟨e,A,z⟩ E ⟨rfl,j,⟨rfl,y,q,u,h⟩|⟨rfl,D,h⟩⟩;have j:A=29:=j;subst j;have y:ac e 1= .Ge 1 1 0:=y;have q:z.gen 1=1:=q;have u:z.get 1 1=some [v]:=u;show W (QS sp) 31 _ _ _ _;refine br ?_;simp only[aU,bK,ai,ay,w6,wq,y,q,u,i,d];refine dZ ⟨rfl,.inr rfl,dK ?_ rfl⟩;simp only[aW,ai,cZ,h,en];exact congrArg aa.bool (HF l.length 1000000);exact⟨rfl,.inr rfl,dK (by rw[D];simp[cZ,h]) rfl⟩
end
def lG:aa->Option (List Obj)
 | .agg [v]=>(ek 6 vS v).bind fun l=>bif bh l.length small then some l else none
 |_=>none
def Zn: ∀ {xs:List aa} {l:List Obj},hJ vS xs=some l->(∀o∈l,o.Al)
 | [],l,h=>by simp only[hJ,aH] at h;subst h;intro o c;cases c
 |x::xs,l,h=>by
  simp only[hJ,aj,aH] at h;obtain⟨a,i,r,d,rfl⟩:=h;intro o c;rcases dl.1 c with rfl|c
  exact(GZ i).2;exact Zn d o c
def Zo: ∀ {l:List Obj},(∀o∈l,o.Al)->hJ vS (l.map Obj.val)=some l
 | [],_=>rfl
 |o::l,h=>by
  have c:=Zo (l:=l) fun o d=>h o (List.mem_cons_of_mem _ d);simp only[eA,hJ,TI (h o List.mem_cons_self),bg,c]
def rj{u:aa}(h:lG u=some l): ∃v,u= .agg [v]/\ax 6 Obj.val v l/\(∀o∈l,o.Al)/\l.length<small:=by
 unfold lG at h;split at h;rename_i v;simp only[aj] at h;obtain⟨j,c,h⟩:=h;obtain⟨i,h⟩:=aY h;injection h with h;subst h
 refine⟨v,rfl,jN (fun v a h=>(GZ h).1) c,?_,fF i⟩;unfold ek at c;split at c;injection c with c;subst c;intro o d;cases d
 obtain⟨_,c⟩:=aY c;exact Zn c;cases c;cases h
def vR(h:ax 6 Obj.val v l)(d: ∀o∈l,o.Al)(c:l.length<small):lG (.agg [v])=some l:=by
 have:ek 6 vS v=some l:=by
  rcases h with⟨rfl,rfl⟩|⟨r,rfl⟩
  rfl;simp only[fH,ek,Zo d]
 have q:bh l.length small=true:=cE c;simp only[dW,lG,this,q]
def JJ(h: ∀o∈l,o.Al):pures (l.map Obj.val)=true:=by
 rw[AP];intro v c;obtain⟨o,d,rfl⟩:=List.mem_map.1 c;exact(h o d).pure
def qK(h:ax 6 Obj.val v l)(d: ∀o∈l,o.Al):dL (.agg [v])=true/\ ∃c,cW (.agg [v])= .agg [c]/\ax 6 Obj.val c l:=by
 rcases h with⟨rfl,rfl⟩|⟨r,rfl⟩
 exact⟨rfl,.AL,rfl,.inl ⟨rfl,rfl⟩⟩;refine⟨by simp only[dL,ei,JJ d,bW],.list 6 (l.map Obj.val) (match r with| .own _=>.no|r=>r),?_,.inr ⟨_,rfl⟩⟩;simp only[cW,dz,kC (JJ d)];cases r<;>rfl
def jh:Sp
 | [v]=>(lG v).bind fun l=>some (.bool (cZ l))
 |_=>none
def AA(h:ax 6 Obj.val v l)(d: ∀o∈l,o.Al)(c:l.length<small):jh [.agg [v]]=some (.bool (cZ l)):=by
 simp only[jh,vR h d c,bg]
def T5:dp:=(75,FC)::T4
def aed:du T5:=.cons ar6 SF
def wI:cQ ah 31 jh:=by
 intro args u c G h w q x z;unfold jh at c;split at c;rename_i v;simp only[aj,aH] at c;obtain⟨l,j,rfl⟩:=c;obtain⟨v,rfl,j,p,B⟩:=rj j;obtain⟨A,y,d,i⟩:=qK j p;have d:dz [.agg [v]]=[.agg [y]]:=by simp only[dz,d]
 exact nB (Q:=QT T5) (mY aed) (fun _=>nH 1) (args:=[.agg [v]]) (v:=.bool (cZ l)) (s':=s0) (by simp only[ei,A,bW]) (by rw[d];exact aq0 (sp:=fun f=>gD f T5) rfl rfl i p B s0) rfl ⟨1,rfl⟩ G h w q x z;cases c
def vg:List ae->Bool
 | []=>true
 |r::l=>bif decide (60<r.length) then false else vg l
def ac6(t:fO):Bool:=aV 300 (IntKind.i64.wrap ((t.1.length:Int)+(t.2.length:Int)))
def vt:List fO->Bool
 | []=>true
 |t::l=>bif ac6 t then false else vt l
def wS(o:Obj):Bool:=decide (12<o.gE.length)||decide (20<o.gT.length)||decide (60<o.id.length)
def oV:List Obj->Bool
 | []=>true
 |o::l=>bif wS o then false else bif vg o.gE then bif vt o.gT then oV l else false else false
def rB(l:List Obj)(n:Int):Bool:=bif aV n (l.length:Nat) then false else oV l
structure GK (v:aa) (o:Obj) (i g:Nat) (e:aw) (lc:Ag.Loc):Prop where
 h2:ac e 2= .Ge 2 1 0
 g2:lc.gen 2=1
 b2:lc.get 2 1=some [v]
 h6:ac e 6= .Ge 6 g 0
 g6:lc.gen 6=g
 b6:lc.get 6 g=some o.cells
 h5:ac e 5= .int .i64 (i:Nat)
section
variable{sp:g9}
def aiS(y:o.Ok){i:Nat}{lc:Ag.Loc}: ∀(c d:List ae) (e:aw),o.gE=d++c->GK v o i g e lc->ac e 7= .int .i64 (d.length:Nat)->
 W (QS sp) 33 (.loop aoU) ⟨e,79,lc⟩ s fun x fr J=>J=s/\ ∃H,fr=⟨H,79,lc⟩/\((x= .exit 2/\GK v o i g H lc/\vg c=true)\/(x= .ret/\ac H 4= .bool false/\vg c=false)):=by
 intro c;have j:=fun K s=>y.gE.lenS co K s;have u:=y.gE.ge;have O:=i6
 induction c with
 |nil=>
  intro d e h F w;obtain⟨V,G,I,z,p,q,U⟩:=F;have T:o.gE.length=d.length:=by rw[h];simp
  refine kq ?_;refine cK (br ?_);simp only[aU,bK,ai,ay,mG,mj,w,z,p,q,Obj.cells,u,j,T,cq];refine W.cnFZ ?_;refine W.exit ⟨rfl,_,rfl,.inl ⟨rfl,⟨?_,G,I,?_,p,q,?_⟩,rfl⟩⟩<;>simp only[dh,ai, *]
 |cons r c M=>
  intro d e h F w;have Y:=F;obtain⟨V,G,I,z,p,q,U⟩:=F;have B:d.length<o.gE.length:=by rw[h];simp
  have E:o.gE[d.length]? =some r:=by rw[h];simp
  have D:=fun lc=>y.gE.at co.2.2.1 E lc .i64;have R:=y.reflen;have A:=vD (n:=d.length) (by omega);have C:aV 60 (r.length:Nat)=decide (60<r.length):=yj 60 _;refine kq ?_;refine cK (br ?_);simp only[aU,bK,ai,ay,mG,mj,w,z,p,q,Obj.cells,u,j,B];refine lw (lY ?_);simp only[fJ];refine cK (jX (br ?_));simp only[aU,jK,bK,ai,ay,gR,mG,mj,w,z,p,q,Obj.cells,D,aA,C];cases hb:decide (60<r.length) with
  |true=>
   refine lw (br ?_);simp only[iA,rR,ay];refine dZ ⟨rfl,_,rfl,.inr ⟨rfl,?_,by simp only[vg,hb,cT]⟩⟩;simp only[aW,ai, *]
  |false=>
   refine kX ?_;simp only[rq,fJ];refine W.reg ?_;simp only[aU,js,ai,ay,w,A];have S:vg (r::c)=vg c:=by simp only[vg,hb,cF]
   rw[S];refine M (d++[r]) _ (by rw[h];simp) ⟨?_,G,I,?_,p,q,?_⟩ ?_;simp only[dh,ai, *];simp only[dh,ai, *];simp only[dh,ai, *];simp only[aW,fh,ai,cD]
def aiU(z:o.Ok){i:Nat}(T:s.gt<=s.aL){lc:Ag.Loc}: ∀(c d:List fO) (e:aw),o.gT=d++c->GK v o i g e lc->ac e 8= .int .i64 (d.length:Nat)->
 W (QS sp) 33 (.loop aoV) ⟨e,79,lc⟩ s fun x fr J=>J=s/\ ∃H,fr=⟨H,79,lc⟩/\((x= .exit 4/\GK v o i g H lc/\vt c=true)\/(x= .ret/\ac H 4= .bool false/\vt c=false)):=by
 intro c;have j:=fun K s=>z.gT.lenS sk K s;have w:=z.gT.ge;have O:=i6
 induction c with
 |nil=>
  intro d e h F y;obtain⟨Y,G,I,A,q,u,V⟩:=F;have U:o.gT.length=d.length:=by rw[h];simp
  refine kq ?_;refine cK (br ?_);simp only[aU,bK,ai,ay,qR,qv,y,A,q,u,Obj.cells,w,j,U,cq];refine W.cnFZ ?_;refine W.exit ⟨rfl,_,rfl,.inl ⟨rfl,⟨?_,G,I,?_,q,u,?_⟩,rfl⟩⟩<;>simp only[dh,ai, *]
 |cons r c M=>
  intro d e h F y;obtain⟨Y,G,I,A,q,u,V⟩:=F;have C:d.length<o.gT.length:=by rw[h];simp
  have E:o.gT[d.length]? =some r:=by rw[h];simp
  have D:=fun lc=>z.gT.at sk.2.2.1 E lc .i64;have R:=z.taglen;have B:=vD (n:=d.length) (by omega);refine kq ?_;refine cK (br ?_);simp only[aU,bK,ai,ay,qR,qv,y,A,q,u,Obj.cells,w,j,C];refine lw (lY ?_);simp only[fJ];refine cK (jX (W.sdrawQ T ?_));simp only[aU,jK,isStore,bK,ai,ay,gR,qR,qv,uH,z9,y,A,q,u,Obj.cells,D,ki];cases hb:ac6 r with
  |true=>
   have p:aV 300 (IntKind.i64.wrap ((r.1.length:Int)+(r.2.length:Int)))=true:=hb;refine jc (t:=true) (by simp only[aW,dR,ai,p]) (br ?_);simp only[iA,rR,ay];refine dZ ⟨rfl,_,rfl,.inr ⟨rfl,?_,by simp only[vt,hb,cT]⟩⟩;simp only[aW,ai, *]
  |false=>
   have p:aV 300 (IntKind.i64.wrap ((r.1.length:Int)+(r.2.length:Int)))=false:=hb;refine jc (t:=false) (by simp only[aW,dR,ai,p]) (lY ?_);simp only[rq,fJ];refine W.reg ?_;simp only[aU,js,ai,ay,y,B];have S:vt (r::c)=vt c:=by simp only[vt,hb,cF]
   rw[S];refine M (d++[r]) _ (by rw[h];simp) ⟨?_,G,I,?_,q,u,?_⟩ ?_;simp only[dh,ai, *];simp only[dh,ai, *];simp only[dh,ai, *];simp only[aW,fh,ai,cD]
def aiR(K:ax 6 Obj.val v l)(hk: ∀o∈l,o.Al)(Y:l.length<small)(hm:s.gt<=s.aL): ∀(c d:List Obj) (e:aw) (lc:Ag.Loc),l=d++c->
 ac e 2= .Ge 2 1 0->lc.gen 2=1->lc.get 2 1=some [v]->ac e 5= .int .i64 (d.length:Nat)->
 W (QS sp) 33 (.loop aoW) ⟨e,79,lc⟩ s fun x fr A=>A=s/\fr.size=79/\((x= .exit 0/\oV c=true)\/(x= .ret/\ac fr.env 4= .bool false/\oV c=false)):=by
 intro c;have B:=fun H s=>K.lenS fD H s;have M:=K.ge;have a3:=i6
 induction c with
 |nil=>
  intro d e lc j h2 R U Z;have K:l.length=d.length:=by rw[j];simp
  refine kq ?_;refine cK (br ?_);simp only[aU,bK,ai,ay,w6,wq,h2,R,U,Z,M,B,K,cq];refine W.cnFZ ?_;exact W.exit ⟨rfl,rfl,.inl ⟨rfl,rfl⟩⟩
 |cons o c ih=>
  intro d e lc j h2 R U Z;have a1:d.length<l.length:=by rw[j];simp
  have O:l[d.length]? =some o:=by rw[j];simp
  have a2:=fun lc=>K.at fD.2.2.1 O lc .i64;have G:=(hk o (dB O)).toOk;have a0:=vD (n:=d.length) (by omega);have q:=fun H s=>G.gE.lenS co H s;have y:=G.gE.ge;have u:=fun H s=>G.gT.lenS sk H s;have C:=G.gT.ge;have V:aV 12 (o.gE.length:Nat)=decide (12<o.gE.length):=yj 12 _;have i2:aV 20 (o.gT.length:Nat)=decide (20<o.gT.length):=yj 20 _;have i3:aV 60 (o.id.length:Nat)=decide (60<o.id.length):=yj 60 _;refine kq ?_;refine cK (br ?_);simp only[aU,bK,ai,ay,w6,wq,h2,R,U,Z,M,B,a1];refine lw (lY ?_);simp only[fJ];refine cK (jX (br ?_));simp only[aU,jK,cut,eM,cM,bK,ai,ay,bG,cy,w6,yT,wq,Wo,h2,R,U,Z,a2,Obj.val,Obj.cells];refine cK (br ?_);have fin: ∀e' I,ac e' 41= .bool true->W (QS sp) 33 (.cond (aB 41) (.seq (.region aoX) .ret) .skip) ⟨e',79,I⟩ s fun x fr A=>x= .ret/\A=s/\fr.size=79/\ac fr.env 4= .bool false:=by
   intro e' I h;refine jc (t:=true) (by simp only[dR,h]) (br ?_);simp only[iA,rR,ay];exact dZ ⟨rfl,rfl,rfl,by simp only[iV,ai,cT, *]⟩
  cases q1:decide (12<o.gE.length) with
  |true=>
   simp only[aU,bK,ai,ay,mG,mj,y,q,V,q1];refine(fin _ _ ?_).mono ?_;simp only[aW,ai, *];rintro x fr A ⟨rfl,rfl,J,h⟩;exact⟨rfl,J,.inr ⟨rfl,h,by simp only[oV,wS,q1,gZ,cT]⟩⟩
  |false=>
  cases q2:decide (20<o.gT.length) with
  |true=>
   simp only[aU,bK,ai,ay,mG,qR,mj,qv,y,q,V,q1,C,u,i2,q2];refine(fin _ _ ?_).mono ?_;simp only[aW,ai, *];rintro x fr A ⟨rfl,rfl,J,h⟩;exact⟨rfl,J,.inr ⟨rfl,h,by simp only[oV,wS,q1,q2,gZ,Bool.or_true,cT]⟩⟩
  |false=>
  cases q3:decide (60<o.id.length) with
  |true=>
   simp only[aU,jK,bK,ai,ay,gR,mG,qR,qu,mj,qv,y,q,V,q1,C,u,i2,q2,i3,q3];refine(fin _ _ ?_).mono ?_;simp only[aW,ai, *];rintro x fr A ⟨rfl,rfl,J,h⟩;exact⟨rfl,J,.inr ⟨rfl,h,by simp only[oV,wS,q1,q2,q3,Bool.or_true,cT]⟩⟩
  |false=>
  have p:wS o=false:=by simp only[wS,q1,q2,q3,Bool.or_false]
  simp only[aU,jK,bK,ai,ay,gR,mG,qR,qu,mj,qv,y,q,V,q1,C,u,i2,q2,i3,q3];refine kX ?_;simp only[fJ];refine cK (br ?_);simp only[iA,ni,ay];refine jX ?_;refine(aiS (v:=v) G (i:=d.length) (g:=lc.gen 6+1) o.gE [] _ rfl ⟨?_,?_,?_,?_,?_,?_,?_⟩ ?_).mono ?_;simp only[dh,ai, *];simp only[gw,ai,cF,R];simp only[gI,ai,cF,U];simp only[aW,ai, *];simp only[gw,ai,cT];simp only[gI,bS,cT,Obj.cells];simp only[dh,ai, *];simp only[aW,ai];rfl;rintro x fr A ⟨rfl,e',rfl,⟨rfl,F,z⟩|⟨rfl,h4,z⟩⟩;show W (QS sp) 33 _ _ _ _;refine br ?_;obtain⟨f2,D,E,f6,S,T,f5⟩:=F;simp only[iA,ni,ay];refine jX ?_;refine(aiU (v:=v) G hm (i:=d.length) (g:=lc.gen 6+1) o.gT [] _ rfl ⟨?_,D,E,?_,S,T,?_⟩ ?_).mono ?_;simp only[dh,ai, *];simp only[dh,ai, *];simp only[dh,ai, *];simp only[iV,ai,cT];rfl;rintro x fr A ⟨rfl,a4,rfl,⟨rfl,F,w⟩|⟨rfl,h4,w⟩⟩;show W (QS sp) 33 _ _ _ _;refine W.reg ?_;obtain⟨f2,D,E,f6,S,T,f5⟩:=F;simp only[aU,js,ai,ay,f5,a0];have hr:oV (o::c)=oV c:=by simp only[oV,p,z,w,cT,cF]
  rw[hr];refine ih (d++[o]) _ _ (by rw[j];simp) ?_ D E ?_;simp only[dh,ai, *];simp only[aW,fh,ai,cD];exact⟨rfl,rfl,.inr ⟨rfl,h4,by simp only[oV,p,z,w,cT,cF]⟩⟩;exact⟨rfl,rfl,.inr ⟨rfl,h4,by simp only[oV,p,z,cF]⟩⟩
def aiT(q:sp 33=none)(j:ax 6 Obj.val v l)(z: ∀o∈l,o.Al)(c:l.length<small)(n:Int)(y:s.gt<=s.aL):aq (QS sp) 33 [.agg [v],.int .i64 n] s (.bool (rB l n)) s:=by
 have h:=fun w s=>j.lenS fD w s;have p:=j.ge;refine lu Iy.1 Iy.2 Iy.3 Iy.4 q ?_;refine br ?_;simp only[aU,fZ,fT,ai,ay,bG,cy,Wo];refine cK (br ?_);simp only[aU,bK,ai,ay,w6,wq,p,h];cases hb:aV n (l.length:Nat) with
 |true=>
  refine lw (br ?_);simp only[iA,rR,ay];refine dZ ⟨rfl,.inr rfl,dK ?_ rfl⟩;simp only[iV,ai,cT,rB,hb]
 |false=>
  refine kX ?_;simp only[fJ];refine cK (br ?_);simp only[iA,ni,ay];refine jX ?_;refine(aiR j z c y l [] _ _ rfl (by simp only[aW,ai, *]) (by simp only[uM,gw,ai,cT]) (by simp only[gI,ai,cT]) (by simp only[aW,ai];rfl)).mono ?_;rintro x ⟨e,u,C⟩ B ⟨rfl,i,⟨rfl,d⟩|⟨rfl,A,d⟩⟩;have i:u=79:=i;subst i;show W (QS sp) 33 _ _ _ _;refine br ?_;simp only[iA,rR,ay];refine dZ ⟨rfl,.inr rfl,dK ?_ rfl⟩;simp only[aW,ai,rB,hb,d];exact⟨rfl,.inr rfl,dK (by rw[A];simp only[rB,hb,cF,d]) rfl⟩
end
def B4:Sp
 | [v,.int .i64 n]=>(lG v).bind fun l=>some (.bool (rB l n))
 |_=>none
def aiN(h:ax 6 Obj.val v l)(d: ∀o∈l,o.Al)(c:l.length<small)(n:Int):B4 [.agg [v],.int .i64 n]=some (.bool (rB l n)):=by
 simp only[B4,vR h d c,bg]
def aiO:cQ ah 33 B4:=by
 intro args u c G h w q x z;unfold B4 at c;split at c;rename_i v n;simp only[aj,aH] at c;obtain⟨l,j,rfl⟩:=c;obtain⟨v,rfl,j,p,B⟩:=rj j;obtain⟨A,y,d,i⟩:=qK j p;have d:dz [.agg [v],.int .i64 n]=[.agg [y],.int .i64 n]:=by simp only[dz,d];rfl
 exact nB (Q:=QT []) (mY .nil) (fun _=>nH 1) (args:=[.agg [v],.int .i64 n]) (v:=.bool (rB l n)) (s':=s0) (by simp only[ei,A];rfl) (by rw[d];exact aiT (sp:=fun f=>gD f []) rfl i p B n (Nat.le_refl _)) rfl ⟨1,rfl⟩ G h w q x z;cases c
def ED(a:Int):an a a=true:=bS a
def xh(s:St)(mk:aI)(n:Nat):s.top.get mk n=s.get mk n:=rfl
def ahV:Sp
 | [a,b]=>bif pures [a,b] then(ek 1 iL a).bind fun l=>(ek 1 iL b).bind fun r=>bif bh l.length small then some (.bool (l==r)) else none else none
 |_=>none
def ahW:Sp
 | [a,b]=>bif pures [a,b] then(ek 2 ur a).bind fun l=>(ek 2 ur b).bind fun r=>bif bh l.length small then some (.bool (l==r)) else none else none
 |_=>none
def V1:dp:=[(70,ahV),(373,ahW)]
def li(a b:List UInt8):Bool:=decide (a<=b)
def Am(x:List UInt8):List (List UInt8)->List (List UInt8)
 | []=>[x]
 |y::l=>bif Ag.leBytes x y then x::y::l else y::Am x l
def lj:List (List UInt8)->List (List UInt8)
 | []=>[]
 |x::l=>Am x (lj l)
def Ag.leBytes_iff(x y:List UInt8):Ag.leBytes x y=li x y:=by
 have h:Ag.leBytes x y=(Op.bytesLess x y||x==y):=rfl;rw[h,Go.Proofs.bytesLess_eq];apply Bool.eq_iff_iff.2;simp only[li,vF,dE,bE];constructor;rintro(h|rfl);exact List.le_of_lt h;exact List.le_refl _;intro h;by_cases e:x=y;exact .inr e;exact .inl (Classical.byContradiction fun c=>e (List.le_antisymm h (List.not_lt.1 c)))
def Nv(x:List UInt8): ∀l,(Am x l).Perm (x::l)
 | []=>.refl _
 |y::l=>by
  simp only[Am];cases Ag.leBytes x y with
  |true=>exact .refl _
  |false=>exact((Nv x l).cons y).trans (.swap x y l)
theorem Gc: ∀l,(lj l).Perm l
 | []=>.refl _
 |x::l=>(Nv x _).trans ((Gc l).cons x)
def YX(a b c:List UInt8)(h:li a b=true)(d:li b c=true):li a c=true:=by
 simp only[li,dE] at*;exact List.le_trans h d
def YW(a b:List UInt8):(li a b||li b a)=true:=by
 simp only[li,vF,dE];exact List.le_total a b
def WK(x:List UInt8): ∀l,l.Pairwise (fun a b=>li a b=true)->(Am x l).Pairwise (fun a b=>li a b=true)
 | [],_=>by simp[Am]
 |y::l,h=>by
  simp only[Am];cases e:Ag.leBytes x y with
  |true=>
   rw[Ag.leBytes_iff] at e;refine sC.2 ⟨fun z c=>?_,h⟩;rcases dl.1 c with rfl|c
   exact e;exact YX _ _ _ e ((sC.1 h).1 z c)
  |false=>
   rw[Ag.leBytes_iff] at e;refine sC.2 ⟨fun z c=>?_,WK x l (sC.1 h).2⟩;rcases dl.1 ((Nv x l).mem_iff.1 c) with rfl|c
   have:=YW z y;rw[e,hZ] at this;exact this;exact(sC.1 h).1 z c
theorem Q8: ∀l,(lj l).Pairwise (fun a b=>li a b=true)
 | []=>.nil
 |x::l=>WK x _ (Q8 l)
def avL(l:List (List UInt8)):l.mergeSort (fun x y=>decide (x<=y))=lj l:=by
 refine List.Perm.eq_of_pairwise (le:=fun a b=>li a b=true) (fun a b _ _ d c=>?_) (List.pairwise_mergeSort YX YW l) (Q8 l) ((List.mergeSort_perm l _).trans (Gc l).symm);simp only[li,dE] at d c;exact List.le_antisymm d c
def db:List UInt8->List UInt8->Int
 | [],[]=>0
 | [],_::_=> -1
 |_::_,[]=>1
 |a::x,b::y=>bif bh a.toNat b.toNat then-1 else bif bh b.toNat a.toNat then 1 else db x y
