/- Lemmas for ValidApart. -/
import Derived.Test.YtnnppcoplinajaaGreatB1
import Derived.Test.YtnnppcoplinajaaGreatZ1b
import Derived.Sort.Walk0
import Derived.Lib.Bytealg
set_option linter.all false
open Bool renaming and_eq_true→bu,and_false→gN,and_self→cw,false_and→dW,false_or→kg,or_eq_true→zQ,true_and→eH,true_or→iR
open List renaming all_eq_true→f8,cons_append→lY,drop→bP,length_nil→bn,map_cons→fy,mem_cons→fc,mem_of_getElem?→eP,mem_range→uD,pairwise_cons→sD,take→df
open Nat renaming beq→aQ,ble_eq_true_of_le→cP,blt→bm,le_of_ble_eq_true→fW,lt_irrefl→cD,reduceAdd→bQ,reduceBEq→ah,reduceLT→aB,reduceLeDiff→cK,zero_add→bV,zero_lt_succ→nB
open Go.Operand renaming tmp→aD
open Option renaming bind_eq_some_iff→ak,bind_some→au
open Option.some renaming injEq→aJ
open Go.Ag.aq renaming of2→l8
open Go.Proofs.Tryz renaming prog→ae
open Go.Ag.W renaming block→jR,cnSZ→ak7,cnTZ→ak9,cond→cQ,loop1→kp,ret→eA,seq→cU,skip→fX,sreg→bt
namespace Go.Proofs.YtnnppcoplinajaaGreat
open Go.Ag
def small:Nat:=9223372036854775808
def ajJ:small=9223372036854775808:=rfl
abbrev fE:=ag×ag
def aG(s:ag):aa:=.str s
def jd(t:fE):aa:=.agg [.str t.1,.str t.2]
def jl:aa->Option ag
 | .str s=>some s
 |_=>none
def uS:aa->Option fE
 | .agg [.str a,.str b]=>some (a,b)
 |_=>none
def iV{α β:Type}(g:α->Option β):List α->Option (List β)
 | []=>some []
 |a::l=>(g a).bind fun b=>(iV g l).bind fun r=>some (b::r)
def eX{α:Type}(n:Nat)(c:aa->Option α):aa->Option (List α)
 | .oZ=>some []
 | .list m xs _=>bif aQ m n then iV c xs else none
 |_=>none
variable{v:aa}
theorem pM{s:ag}(h:jl v=some s):v=aG s:=by
 unfold jl at h;split at h;injection h with h;subst h;rfl
 cases h
def Hy{t:fE}(h:uS v=some t):v=jd t:=by
 unfold uS at h;split at h;injection h with h;subst h;rfl
 cases h
theorem FE{α:Type}{c:aa->Option α}{enc:α->aa}(d: ∀v a,c v=some a->v=enc a): ∀ {xs:List aa} {l:List α},iV c xs=some l->xs=l.map enc
 | [],l,h=>by grind [iV]
 |x::xs,l,h=>by
  simp only[iV,ak,aJ] at h;obtain⟨a,j,r,i,rfl⟩:=h;rw[fy,<-d x a j,<-FE d i]
theorem yX{α:Type}{c:aa->Option α}{enc:α->aa}(d: ∀a,c (enc a)=some a): ∀(l:List α),iV c (l.map enc)=some l
 | []=>rfl
 |a::l=>by simp only[fy,iV,d,au,yX d l]
variable{n:Nat}{α:Type}
theorem kr{c:aa->Option α}{enc:α->aa}(d: ∀v a,c v=some a->v=enc a){l:List α}(h:eX n c v=some l):ay n enc v l:=by
 unfold eX at h;split at h;injection h with h;exact .inl ⟨rfl,h.symm⟩
 obtain⟨j,i⟩:=bh h
 have:=Nat.eq_of_beq_eq_true j;subst this;rename_i p r;exact .inr ⟨r,by rw[FE d i]⟩;cases h
theorem mX{c:aa->Option α}{enc:α->aa}(d: ∀a,c (enc a)=some a){l:List α}(h:ay n enc v l):eX n c v=some l:=by
 rcases h with⟨rfl,rfl⟩|⟨r,rfl⟩
 all_goals grind [eX,yX,bD]
theorem vE{enc:α->aa}(c: ∀a,bL (enc a)=true)(l:List α):pures (l.map enc)=true:=by
 grind [Bd]
def pU{enc:α->aa}(c: ∀a,bL (enc a)=true){l:List α}(h:ay n enc v l):d8 v=true/\ay n enc (de v) l:=by
 rcases h with⟨rfl,rfl⟩|⟨r,rfl⟩
 exact⟨rfl,.inl ⟨rfl,rfl⟩⟩;exact⟨by simpa[d8] using vE c l,.inr (by
  simp only[de,lh (vE c l)];exact⟨_,rfl⟩)⟩
def vQ(s:ag):bL (aG s)=true:=rfl
def Qw(t:fE):bL (jd t)=true:=rfl
def oc(s:ag):jl (aG s)=some s:=rfl
def Hz(t:fE):uS (jd t)=some t:=rfl
theorem aX(s:St)(n m:Nat)(o:Option aR):(s.put n o).get [] m=bif m==n then o else s.get [] m:=by
 grind [St.get,St.put,eh,aC.get_set]
theorem fk(s:St)(m:Nat)(o:aR):(s.new o).get [] m=bif m==s.aL then some o else s.get [] m:=by
 grind [St.get,St.new,eh,aC.get_set]
def lR(s:St)(n:Nat)(o:Option aR):(s.put n o).aL=s.aL:=rfl
def Pa(s:St)(o:aR):(s.new o).aL=s.aL+1:=rfl
def nI(n:Nat):List (ag×aa)->List dK
 | []=>[]
 |(k,v)::l=>⟨.str k,v,n⟩::nI (n+1) l
def look(k:ag):List (ag×aa)->Option aa
 | []=>none
 |(a,v)::l=>bif k==a then some v else look k l
def qW(k:ag):List (ag×aa)->Nat
 | []=>0
 |(a,_)::l=>bif k==a then 0 else qW k l+1
variable{l:List (ag×aa)}{m:Nat}{s:St}{e t:TypeId}
section
variable{P:Program}{kt:TypeId}(heq: ∀a b:List UInt8,kI P 8 kt (.str a) (.str b)=some (a==b))
include heq
theorem MJ: ∀(l:List (ag×aa)) (k:ag) (n i:Nat),nK P kt (.str k) (nI n l) i=some ((look k l).map fun v=>(i+qW k l,⟨.str k,v,n+qW k l⟩))
 | [],k,n,i=>rfl
 |(a,v)::l,k,n,i=>by
  simp only[nI,nK,heq,au,look,qW];cases h:k==a with
  |true=>
   grind
  |false=>
   simp only[cF];rw[MJ l k (n+1) (i+1)]
   grind
theorem aml{z:aa}(i: ∀k:List UInt8,lP P t (.str k)=some (kt,e))(d:eV P e=some z){c:Nat}(h:s.get [] m=some (.map (nI 0 l) c))(k:ag):
 ou P [] t (.map m) (.str k) false s=some ((look k l).getD z):=by
 simp only[ou,i,au,d,AZ,h,MJ heq l k 0 0];cases look k l<;>rfl
end
def TV: ∀(l r:List (ag×aa)) (n:Nat),nI n (l++r)=nI n l++nI (n+l.length) r
 | [],r,n=>rfl
 |(a,v)::l,r,n=>by simp only[lY,nI,TV l r (n+1),List.length_cons];congr 3;omega
def tC(k:ag)(v:aa):List (ag×aa)->List (ag×aa)
 | []=>[(k,v)]
 |(a,u)::l=>bif k==a then(k,v)::l else(a,u)::tC k v l
def Vs{k:ag}{v:aa}: ∀ {l},look k l=none->tC k v l=l++[(k,v)]
 | [],_=>rfl
 |(a,u)::l,h=>by
  simp only[look] at h;simp only[tC];cases h1:k==a with
  |true=>rw[h1] at h;cases h
  |false=>rw[h1] at h;simp only[cF,Vs h,lY]
def TW{k:ag}{u v:aa}: ∀ {l:List (ag×aa)} {n:Nat},look k l=some u->(nI n l).set (qW k l) ⟨.str k,v,n+qW k l⟩=nI n (tC k v l)
 | [],_,h=>by cases h
 |(a,w)::l,n,h=>by
  simp only[look] at h;simp only[tC,qW,nI];cases h1:k==a with
  |true=>simp[nI]
  |false=>
   rw[h1] at h;simp only[cF,List.set_cons_succ,nI];rw[<-TW (l:=l) (n:=n+1) h,show n+(qW k l+1)=n+1+qW k l by omega]
theorem asr{P:Program}{kt:TypeId}(heq: ∀a b:List UInt8,kI P 8 kt (.str a) (.str b)=some (a==b))(j: ∀k:List UInt8,lP P t (.str k)=some (kt,e))(i:s.get [] m=some (.map (nI 0 l) l.length))(k:ag)(v:aa):
 qZ P [] t (.map m) (.str k) v s=some (s.put m (some (.map (nI 0 (tC k v l)) (tC k v l).length))):=by
 have c: ∀ {l:List (ag×aa)} {u:aa},look k l=some u->(tC k v l).length=l.length:=by
  intro l
  induction l with
  |nil=>intro u h;cases h
  |cons x l p=>
   grind [look,tC]
 simp only[qZ,j,au,i,MJ heq l k 0 0];cases h:look k l with
 |none=>
  simp only[adz,Option.map_none,Vs h,TV,bV];rfl
 |some u=>
  have d:tI (.str k) (.str k)=true:=by simp[tI,xF]
  simp only[Option.map_some,d,cT,c h]
  have:=TW (v:=v) (n:=0) h
  grind
def tE(b:UInt8):Bool:=AW b.toNat
def EP(b:UInt8):Bool:=Cd b.toNat
def A1(s:ag):Bool:=s.all fun b=>tE b||EP b||aQ b.toNat 95
def gU(s:ag):Bool:=match s with| []=>false|b::r=>tE b&&A1 r&&Nat.ble (b::r).length 24
def jq:Sp
 | [.str s]=>bif bm s.length small then some (.bool (gU s)) else none
 |_=>none
def y7{s:ag}(h:s.length<small):jq [.str s]=some (.bool (gU s)):=by
 simp only[jq,jC,h,dT,cT]
def rZ(i:Nat)(b:UInt8):Bool:=tE b||(!(i==0)&&(EP b||(b.toNat==95)))
def rT:Nat->ag->Bool
 |_,[]=>true
 |i,b::r=>rZ i b&&rT (i+1) r
def O2: ∀(s:ag) (i:Nat),rT (i+1) s=A1 s
 | [],_=>rfl
 |b::r,i=>by
  simp only[rT,A1,List.all_cons];rw[O2 r (i+1)];simp[rZ,A1,Bool.or_assoc,bD]
def Em(b:UInt8):an ((yi b.toNat:Nat):Int) 3=tE b:=by
 rw[show(3:Int)=((3:Nat):Int) from rfl,Cu];unfold yi tE;cases AW b.toNat with
 |true=>rfl
 |false=>
  simp only[cF];cases Cd b.toNat with
  |true=>rfl
  |false=>
   simp only[cF];cases FG b.toNat [32,9,10] with
   |true=>rfl
   |false=>
    simp only[cF];cases FG b.toNat [59,44,46,58,40,41,123,125,91,93,61,60,62,47,45] with
    |true=>rfl
    |false=>
     simp only[cF];cases aQ b.toNat 35<;>cases aQ b.toNat 95<;>cases aQ b.toNat 34<;>rfl
def Tx:(List.range 256).all (fun n=>(aQ (yi n) 4==Cd n)&&(aQ (yi n) 5==aQ n 95))=true:=by decide+kernel
def Mh(b:UInt8):an ((yi b.toNat:Nat):Int) 4=EP b:=by
 rw[show(4:Int)=((4:Nat):Int) from rfl,Cu,<-bD]
 have:=f8.1 Tx b.toNat (uD.2 b.toNat_lt);simp only[bu,bE] at this;exact this.1
def Tu(b:UInt8):an ((yi b.toNat:Nat):Int) 5=(b.toNat==95):=by
 rw[<-bD b.toNat,show(5:Int)=((5:Nat):Int) from rfl,Cu,<-bD]
 have:=f8.1 Tx b.toNat (uD.2 b.toNat_lt);simp only[bu,bE] at this;exact this.2
variable{g:Nat}
section
variable{sp:SpZ}
def amU{str:ag}(E:str.length<9223372036854775808): ∀(d c:ag) (e:ax) (lc:Ag.Loc),str=c++d->
 ac e 0= .str str->ac e 3= .rd 3 g 0->lc.gen 3=g->lc.get 3 g=some (tg 256 0)->ac e 8= .int .i64 (str.length:Nat)->ac e 9= .int .i64 (c.length:Nat)->
 W (QS sp) 163 (.loop ail) ⟨e,39,lc⟩ s fun x fr z=>z=s/\fr.size=39/\((x= .exit 0/\ac fr.env 0= .str str/\rT c.length d=true)\/(x= .ret/\ac fr.env 2= .bool false/\rT c.length d=false)):=by
 intro d
 induction d with
 |nil=>
  intro c e lc i O M D C I y;have B:str.length=c.length:=by rw[i];simp
  refine kp ?_;refine bt ?_;simp only[dJ,aB,I,y,B,cD];refine cU (W.cnFZ ?_);refine W.exit ?_;refine⟨rfl,rfl,.inl ⟨rfl,?_,rfl⟩⟩;simp only[abK,ah, *]
 |cons b d F=>
  intro c e lc i O M D C I y;have H:c.length<str.length:=by rw[i];simp
  have w:str.drop c.length=b::d:=by rw[i];simp
  have K:b.toNat<256:=b.toNat_lt;have p:=Tv 256 0 b.toNat K;rw[bV] at p;have u:=ale (n:=c.length) (by omega);have q:an (c.length:Int) 0=(c.length==0):=Cu _ 0;refine kp ?_;refine bt ?_;simp only[dJ,aB,I,y,H];refine cU (ak9 (fX ?_));refine cU (jR ?_);refine bt ?_;simp only[dJ,ah,aB,y];refine bt ?_;simp only[dJ,FbZ,ah,aB,PO,O,M,w,K,D,C,p,Nat.mul_one];refine bt ?_;have fin: ∀J A,ac J 30= .bool true->W (QS sp) 163 (.cond (aD 30) (.seq (.region aim) .ret) .skip) ⟨J,39,A⟩ s fun x fr z=>x= .ret/\z=s/\fr.size=39/\ac fr.env 2= .bool false:=by
   intro J A h;refine cQ (t:=true) (by simp only[aA,h]) (bt ?_);simp only[agI,dl,aB];exact eA ⟨rfl,rfl,rfl,by simp only[aj,ah,cT, *]⟩
  cases hL:tE b with
  |true=>
   simp only[dJ,ah,aB,Em,hL];refine ak7 ?_;simp only[nH,dq];refine W.reg ?_;simp only[dJ,FlZ,ah,aB,y,u];refine(F (c++[b]) _ _ (by rw[i];simp) (by simp only[abK,ah, *]) (by simp only[abK,ah, *]) D C (by simp only[abK,ah, *]) (by simp only[abc,adz,ah])).mono ?_;have j:rZ c.length b=true:=by simp[rZ,hL]
   simp only[adz,rT,j,eH];exact fun _ _ _ h=>h
  |false=>
  cases hz:c.length==0 with
  |true=>
   simp only[dJ,ah,aB,q,Em,hL,hz];refine(fin _ _ ?_).mono ?_;simp only[abc,ah, *];rintro x fr z ⟨rfl,rfl,G,h⟩;exact⟨rfl,G,.inr ⟨rfl,h,by simp[rT,rZ,hL,hz]⟩⟩
  |false=>
  cases hD:EP b with
  |true=>
   simp only[dJ,ah,aB,q,Em,Mh,hL,hz,hD];refine ak7 ?_;simp only[nH,dq];refine W.reg ?_;simp only[dJ,FlZ,ah,aB,y,u];refine(F (c++[b]) _ _ (by rw[i];simp) (by simp only[abK,ah, *]) (by simp only[abK,ah, *]) D C (by simp only[abK,ah, *]) (by simp only[abc,adz,ah])).mono ?_;have j:rZ c.length b=true:=by simp[rZ,hL,hz,hD]
   simp only[adz,rT,j,eH];exact fun _ _ _ h=>h
  |false=>
  cases hU:b.toNat==95 with
  |true=>
   simp only[dJ,ah,aB,q,Em,Mh,Tu,hL,hz,hD,hU];refine ak7 ?_;simp only[nH,dq];refine W.reg ?_;simp only[dJ,FlZ,ah,aB,y,u];refine(F (c++[b]) _ _ (by rw[i];simp) (by simp only[abK,ah, *]) (by simp only[abK,ah, *]) D C (by simp only[abK,ah, *]) (by simp only[abc,adz,ah])).mono ?_;have j:rZ c.length b=true:=by simp[rZ,hL,hz,hD,hU]
   simp only[adz,rT,j,eH];exact fun _ _ _ h=>h
  |false=>
   simp only[dJ,ah,aB,q,Em,Mh,Tu,hL,hz,hD,hU];refine(fin _ _ ?_).mono ?_;simp only[abc,ah, *];rintro x fr z ⟨rfl,rfl,G,h⟩;exact⟨rfl,G,.inr ⟨rfl,h,by simp[rT,rZ,hL,hz,hD,hU]⟩⟩
def amV(u:sp 260=some KG)(h94:sp 163=none)(str:ag)(d:str.length<9223372036854775808)(s:St):aq (QS sp) 163 [.str str] s (.bool (gU str)) s:=by
 have i:KG []=some (.agg (tg 256 0)):=rfl;have p:=Tw 256 0;refine l8 IC.1 IC.2 IC.3 IC.4 h94 ?_;refine bt ?_;simp only[dJ,aaA,gI,aB,cK];refine bt ?_;have D:eV ae 320=some (.agg (aZ [.int .u8 0] 256)):=by kernel_rfl
 have j:(aZ [aa.int .u8 0] 256).length=256:=by kernel_rfl
 have E:fL (aZ [aa.int .u8 0] 256) 0 (tg 256 0)=some (tg 256 0):=by
  simp only[fL,j,p,gG];have:bP (0+256) (aZ [aa.int .u8 0] 256)=[]:=List.drop_eq_nil_of_le (by rw[j];omega);rw[this];simp
 simp only[dJ,FbZ,u,i,D,E,p,ah,aB,agS];refine cU (bt ?_);simp only[dJ,FbZ,ah,aB];refine jR ?_;refine(amU d (g:=1) str [] _ _ rfl (by simp only[abc,ah, *]) (by simp only[abc,ah, *]) (by simp only[gw,dj,ah,cT]) (by simp only[cY,ah,cT]) (by simp only[abc,ah, *]) (by simp only[abc,ah];rfl)).mono ?_;rintro x ⟨e,C,H⟩ G ⟨rfl,y,⟨rfl,w,c⟩|⟨rfl,q,c⟩⟩;have y:C=39:=y;subst y;have w:ac e 0= .str str:=w;show W (QS sp) 163 _ _ _ _;refine bt ?_;have A:cr (str.length:Int) 24=decide (str.length<=24):=EO _ 24;cases str with
 |nil=>
  simp only[dJ,ah,aB,w];refine eA ⟨rfl,.inr rfl,dZ ?_ rfl⟩;simp only[abc,ah, *];rfl
 |cons b r=>
  have z:((b::r:ag)== [])=false:=rfl;simp only[dJ,FbZ,ah,aB,w,z];refine eA ⟨rfl,.inr rfl,dZ ?_ rfl⟩;simp only[abc,ah];have F:gU (b::r)=decide ((b::r).length<=24):=by
   simp only[rT,bn,bV,bu] at c;have B:tE b=true:=by simpa[rZ] using c.1
   have q:A1 r=true:=by rw[<-O2 r 0];exact c.2
   simp only[gU,B,q,eH,gG]
  rw[F];exact congrArg aa.bool A
 refine⟨rfl,.inr rfl,dZ ?_ rfl⟩;rw[q];cases str with
 |nil=>cases c
 |cons b r=>
  simp only[rT,bn,bV,Bool.and_eq_false_iff] at c;refine congrArg aa.bool ?_;rcases c with h|h
  have B:tE b=false:=by simpa[rZ] using h
  simp[gU,B];have q:A1 r=false:=by rw[<-O2 r 0];exact h
  simp[gU,q]
end
def T2:dX:=(260,KG)::T1
def Rr:dR T2:=.cons arb Rq
def O3:db ae 163 jq:=by
 intro args v c G h w i j p;unfold jq at c;split at c;rename_i s;obtain⟨d,c⟩:=bh c;injection c with c;subst c
 have d:s.length<small:=fW d;exact ni (Q:=QT T2) (mW Rr) (fun _=>nB 1) (args:=[.str s]) (v:=.bool (gU s)) (s':=s0) rfl (amV (sp:=fun f=>gL f T2) rfl rfl s d s0) rfl ⟨1,rfl⟩ G h w i j p;cases c
def qi(last:ag)(t:fE):Bool:= !gU t.1||Ag.leBytes t.1 last||(t.2== [])||decide (200<t.2.length)
def uq:ag->List fE->Bool
 |_,[]=>true
 |last,t::r=>bif qi last t then false else uq t.1 r
def mD(l:List fE):Bool:=uq [] l&&decide (l.length<=60)
variable{l:List fE}
section
variable{sp:SpZ}(h94:sp 163=some jq)
include h94
theorem arA(J:ay 2 jd v l)(S: ∀t∈l,t.1.length<small)(D:l.length<small): ∀(c d:List fE) (e:ax) (lc:Ag.Loc) (last:ag),l=d++c->
 ac e 0=v->ac e 6=v->ac e 7= .int .i64 (l.length:Nat)->ac e 8= .int .i64 (d.length:Nat)->ac e 3= .str last->
 W (QS sp) 164 (.loop ain) ⟨e,39,lc⟩ s fun x fr p=>p=s/\fr.size=39/\((x= .exit 0/\ac fr.env 0=v/\uq last c=true)\/(x= .ret/\ac fr.env 2= .bool false/\uq last c=false)):=by
 intro c
 induction c with
 |nil=>
  intro d e lc last i M K H B C;have w:l.length=d.length:=by rw[i];simp
  refine kp ?_;refine bt ?_;simp only[dJ,aB,H,B,w,cD];refine cU (cQ (t:=false) (by simp only[aA,Pd]) ?_);refine W.exit ?_;refine⟨rfl,rfl,.inl ⟨rfl,?_,rfl⟩⟩;simp only[abK,ah,M]
 |cons t c O=>
  intro d e lc last i M K H B C;have F:d.length<l.length:=by rw[i];simp
  have A:l[d.length]? =some t:=by rw[i];simp
  have G:=fun lc=>J.at ub.2.2.1 A lc .i64;have T:=J.ge;have j:=y7 (S t (eP A));have R:=ajJ;have E:=ale (n:=d.length) (by omega);refine kp ?_;refine bt ?_;simp only[dJ,aB,H,B,F];refine cU (cQ (t:=true) (by simp only[aA,Pd]) (fX ?_));refine cU (jR ?_);refine bt ?_;simp only[dJ,FbZ,cut,fL,df,bP,ah,aB,bQ,cK,PP,M9,K,B,G,jd];refine cU (bt ?_);have fin: ∀I u,ac I 32= .bool true->qi last t=true->W (QS sp) 164 (.cond (aD 32) (.seq (.region aio) .ret) .skip) ⟨I,39,u⟩ s fun x fr p=>x= .ret/\p=s/\fr.size=39/\ac fr.env 2= .bool false:=by
   intro I u h _;refine cQ (t:=true) (by simp only[aA,h]) (bt ?_);simp only[agI,dl,aB];exact eA ⟨rfl,rfl,rfl,by simp only[aj,ah,cT, *]⟩
  cases hb1:gU t.1 with
  |false=>
   simp only[dJ,bP,ah,aB,iB,tk,h94,j,hb1];refine(fin _ _ ?_ ?_).mono ?_;simp only[abc,ah, *];simp[qi,hb1];rintro x fr p ⟨rfl,rfl,q,h⟩;exact⟨rfl,q,.inr ⟨rfl,h,by simp[uq,qi,hb1]⟩⟩
  |true=>
  cases hb2:Ag.leBytes t.1 last with
  |true=>
   simp only[dJ,bP,ah,aB,iB,tk,C,h94,j,hb1,hb2];refine(fin _ _ ?_ ?_).mono ?_;simp only[abc,ah, *];simp[qi,hb1,hb2];rintro x fr p ⟨rfl,rfl,q,h⟩;exact⟨rfl,q,.inr ⟨rfl,h,by simp[uq,qi,hb1,hb2]⟩⟩
  |false=>
  cases hb3:t.2== [] with
  |true=>
   simp only[dJ,bP,ah,aB,iB,tk,Ax,C,h94,j,hb1,hb2,hb3];refine(fin _ _ ?_ ?_).mono ?_;simp only[abc,ah, *];simp[qi,hb1,hb2,hb3];rintro x fr p ⟨rfl,rfl,q,h⟩;exact⟨rfl,q,.inr ⟨rfl,h,by simp[uq,qi,hb1,hb2,hb3]⟩⟩
  |false=>
  have y:bc 200 (t.2.length:Nat)=decide (200<t.2.length):=fB 200 _;cases hb4:decide (200<t.2.length) with
  |true=>
   simp only[dJ,FbZ,bP,ah,aB,iB,tk,Ax,M9,C,h94,j,hb1,hb2,hb3,y,hb4];refine(fin _ _ ?_ ?_).mono ?_;simp only[abc,ah, *];simp[qi,hb1,hb2,hb3,hb4];rintro x fr p ⟨rfl,rfl,q,h⟩;exact⟨rfl,q,.inr ⟨rfl,h,by simp[uq,qi,hb1,hb2,hb3,hb4]⟩⟩
  |false=>
   simp only[dJ,FbZ,bP,ah,aB,iB,tk,Ax,M9,C,h94,j,hb1,hb2,hb3,y,hb4];refine ak7 ?_;simp only[dq];refine W.reg ?_;simp only[dJ,FlZ,bP,ah,aB,iB,tk];refine W.reg ?_;simp only[dJ,FlZ,ah,aB,B,E];refine(O (d++[t]) _ _ t.1 (by rw[i];simp) (by simp only[abK,ah, *]) (by simp only[abK,ah, *]) (by simp only[abK,ah, *]) (by simp only[abc,adz,ah]) (by simp only[abc,ah, *])).mono ?_;have z:qi last t=false:=by simp[qi,hb1,hb2,hb3,hb4]
   simp only[uq,z,cF];exact fun _ _ _ h=>h
theorem arB(h95:sp 164=none)(p:ay 2 jd v l)(y: ∀t∈l,t.1.length<small)(c:l.length<small)(s:St):aq (QS sp) 164 [v] s (.bool (mD l)) s:=by
 have d:=fun w s=>p.lenS ub w s;have i:=p.ge;refine l8 IE.1 IE.2 IE.3 IE.4 h95 ?_;refine bt ?_;simp only[dJ,aaA,gI,aB,cK];refine bt ?_;simp only[agI,my,aB];refine cU (bt ?_);simp only[dJ,ah,aB,i,d];refine jR ?_;refine(arA h94 p y c l [] _ _ [] rfl (by simp only[abc,ah, *]) (by simp only[abc,ah, *]) (by simp only[abc,ah, *]) (by simp only[abc,ah];rfl) (by simp only[abc,ah, *])).mono ?_;rintro x ⟨e,u,B⟩ A ⟨rfl,j,⟨rfl,q,h⟩|⟨rfl,z,h⟩⟩;have j:u=39:=j;subst j;have q:ac e 0=v:=q;show W (QS sp) 164 _ _ _ _;refine bt ?_;simp only[dJ,ah,aB,q,i,d];refine eA ⟨rfl,.inr rfl,dZ ?_ rfl⟩;simp only[abc,ah,mD,h,eH];exact congrArg aa.bool (EO l.length 60);exact⟨rfl,.inr rfl,dZ (by rw[z];simp[mD,h]) rfl⟩
end
def Bl:List fE->Bool
 | []=>true
 |t::l=>bm t.1.length small&&Bl l
def Qa: ∀ {l:List fE},Bl l=true-> ∀t∈l,t.1.length<small
 | [],_,_,h=>by cases h
 |a::l,h,t,c=>by
  simp only[Bl,bu] at h;rcases fc.1 c with rfl|c
  exact fW h.1;exact Qa h.2 t c
def Qb: ∀ {l:List fE},(∀t∈l,t.1.length<small)->Bl l=true
 | [],_=>rfl
 |a::l,h=>by
  simp only[Bl,bu];exact⟨cP (h a (by simp)),Qb fun t c=>h t (by simp[c])⟩
def DD:Sp
 | [v]=>(eX 2 uS v).bind fun l=>bif bm l.length small&&Bl l then some (.bool (mD l)) else none
 |_=>none
def arx(h:ay 2 jd v l)(h1:l.length<small)(c: ∀t∈l,t.1.length<small):DD [v]=some (.bool (mD l)):=by
 simp only[go_sem,DD,mX Hz h,h1,Qb c]
def T3:dX:=(163,jq)::T2
def Rs:dR T3:=.cons O3 Rr
def ary:db ae 164 DD:=by
 intro args u c G h w i j p;unfold DD at c;split at c;rename_i v;simp only[ak] at c;obtain⟨l,z,c⟩:=c;obtain⟨d,c⟩:=bh c;injection c with c;subst c
 simp only[bu] at d;have y:ay 2 jd v l:=kr (fun _ _=>Hy) z;obtain⟨x,q⟩:=pU Qw y;exact ni (Q:=QT T3) (mW Rs) (fun _=>nB 1) (args:=[v]) (v:=.bool (mD l)) (s':=s0) (by simp only[eO,x,cw])
  (arB (sp:=fun f=>gL f T3) rfl rfl q (Qa d.2) (fW d.1) s0) rfl ⟨1,rfl⟩ G h w i j p
 cases c
def pE(k:Int):ag:=bif an k 1 then [110,111,100,101] else bif an k 2 then [119,97,121] else bif an k 3 then [97,114,101,97] else bif an k 4 then [114,111,117,116,101] else bif an k 5 then [116,117,114,110] else []
def GV:Sp
 | [.int .i64 k]=>some (.str (pE k))
 |_=>none
def ae1:mS [] 100 162 [.int .i64 0]=some (.str (pE 0),0):=by kernel_rfl
def ae2:mS [] 100 162 [.int .i64 1]=some (.str (pE 1),0):=by kernel_rfl
def ae3:mS [] 100 162 [.int .i64 2]=some (.str (pE 2),0):=by kernel_rfl
def ae4:mS [] 100 162 [.int .i64 3]=some (.str (pE 3),0):=by kernel_rfl
def ae5:mS [] 100 162 [.int .i64 4]=some (.str (pE 4),0):=by kernel_rfl
def ae6:mS [] 100 162 [.int .i64 5]=some (.str (pE 5),0):=by kernel_rfl
variable{k:Int}
def asV{sp:SpZ}(h93:sp 162=none)(p:k<0\/6<=k)(s:St):aq (QS sp) 162 [.int .i64 k] s (.str []) s:=by
 refine l8 IB.1 IB.2 IB.3 IB.4 h93 ?_;refine bt ?_;simp only[dJ,aaA,gI,aB,cK];refine bt ?_;simp only[dJ,FbZ,fL,df,bP,ah,aB,bQ,Nat.reduceMul,cK,ac4,agR,bg];refine cU (bt ?_);have fin: ∀i c,ac i 10= .bool true->W (QS sp) 162 (.cond (aD 10) (.seq (.region aik) .ret) .skip) ⟨i,14,c⟩ s fun x fr d=>x= .ret/\d=s/\ac fr.env 2= .str []:=by
  intro i c h;refine cQ (t:=true) (by simp only[aA,h]) (bt ?_);simp only[agI,my,aB];exact eA ⟨rfl,rfl,by simp only[aj,ah,cT, *]⟩
 cases h1:bc k 0 with
 |true=>
  simp only[dJ,ah,aB,h1];refine(fin _ _ ?_).mono ?_;simp only[abc,ah, *];rintro x fr d ⟨rfl,rfl,h⟩;exact⟨rfl,.inr rfl,dZ h rfl⟩
 |false=>
  have j:cr 6 k=true:=by
   simp only[bc,decide_eq_false_iff_not] at h1;simp only[cr,dE];omega
  simp only[dJ,ah,aB,h1,j];refine(fin _ _ ?_).mono ?_;simp only[abc,ah, *];rintro x fr d ⟨rfl,rfl,h⟩;exact⟨rfl,.inr rfl,dZ h rfl⟩
theorem oq{a b:Int}(h:a≠b):an a b=false:=bN.2 h
def asT:db ae 162 GV:=by
 intro args u p G h w c d i;unfold GV at p;split at p;rename_i k;injection p with p;subst p
 have j:(k<0\/6<=k)\/k=0\/k=1\/k=2\/k=3\/k=4\/k=5:=by omega
 rcases j with x|rfl|rfl|rfl|rfl|rfl|rfl
 have q:pE k=[]:=by
  simp only[pE,oq (show k≠1 by omega),oq (show k≠2 by omega),oq (show k≠3 by omega),oq (show k≠4 by omega),oq (show k≠5 by omega),cF]
 rw[q];exact ni (Q:=QT []) (mW .nil) (fun _=>nB 1) (args:=[.int .i64 k]) (v:=.str []) (s':=s0) rfl (asV (sp:=fun f=>gL f []) rfl x s0) rfl ⟨1,rfl⟩ G h w c d i;exact oJ .nil ae1 (args':=[.int .i64 0]) rfl rfl G h w c d i;exact oJ .nil ae2 (args':=[.int .i64 1]) rfl rfl G h w c d i;exact oJ .nil ae3 (args':=[.int .i64 2]) rfl rfl G h w c d i;exact oJ .nil ae4 (args':=[.int .i64 3]) rfl rfl G h w c d i;exact oJ .nil ae5 (args':=[.int .i64 4]) rfl rfl G h w c d i;exact oJ .nil ae6 (args':=[.int .i64 5]) rfl rfl G h w c d i;cases p
def tJ(k:Int):Nat:=bif an k 2 then 2 else bif an k 3 then 3 else bif an k 4 then 1 else bif an k 5 then 3 else 0
def CJ:Sp
 | [.int .i64 k]=>bif cr 0 k&&bc k 6 then some (.int .i64 (tJ k:Nat)) else none
 |_=>none
def ae7:mS [] 100 165 [.int .i64 0]=some (.int .i64 (tJ 0:Nat),0):=by kernel_rfl
def ae8:mS [] 100 165 [.int .i64 1]=some (.int .i64 (tJ 1:Nat),0):=by kernel_rfl
def ae9:mS [] 100 165 [.int .i64 2]=some (.int .i64 (tJ 2:Nat),0):=by kernel_rfl
def afa:mS [] 100 165 [.int .i64 3]=some (.int .i64 (tJ 3:Nat),0):=by kernel_rfl
def afb:mS [] 100 165 [.int .i64 4]=some (.int .i64 (tJ 4:Nat),0):=by kernel_rfl
def afc:mS [] 100 165 [.int .i64 5]=some (.int .i64 (tJ 5:Nat),0):=by kernel_rfl
def alz:db ae 165 CJ:=by
 intro args u c G h w i j p;unfold CJ at c;split at c;rename_i k;obtain⟨q,c⟩:=bh c;injection c with c;subst c
 simp only[cr,bc,bu,dE] at q;have d:k=0\/k=1\/k=2\/k=3\/k=4\/k=5:=by omega
 rcases d with rfl|rfl|rfl|rfl|rfl|rfl
 exact oJ .nil ae7 (args':=[.int .i64 0]) rfl rfl G h w i j p;exact oJ .nil ae8 (args':=[.int .i64 1]) rfl rfl G h w i j p;exact oJ .nil ae9 (args':=[.int .i64 2]) rfl rfl G h w i j p;exact oJ .nil afa (args':=[.int .i64 3]) rfl rfl G h w i j p;exact oJ .nil afb (args':=[.int .i64 4]) rfl rfl G h w i j p;exact oJ .nil afc (args':=[.int .i64 5]) rfl rfl G h w i j p;cases c
def qS(x y:Int):Bool:=cr 0 x&&bc x 1048576&&cr 0 y&&bc y 1048576
def FX:Sp
 | [.agg [.int .i64 x,.int .i64 y]]=>some (.bool (qS x y))
 |_=>none
def anS{sp:SpZ}(h99:sp 168=none)(x y:Int)(s:St):aq (QS sp) 168 [.agg [.int .i64 x,.int .i64 y]] s (.bool (qS x y)) s:=by
 refine l8 II.1 II.2 II.3 II.4 h99 ?_;refine bt ?_;simp only[dJ,aaA,gI,aB,cK,agT];refine bt ?_;cases h1:cr 0 x with
 |false=>
  simp only[dJ,bP,ah,aB,j0,Aw,h1];refine eA ⟨rfl,.inr rfl,dZ ?_ rfl⟩;simp only[abc,ah, *];simp only[qS,h1,dW]
 |true=>
 cases h2:bc x 1048576 with
 |false=>
  simp only[dJ,bP,ah,aB,j0,Aw,h1,h2];refine eA ⟨rfl,.inr rfl,dZ ?_ rfl⟩;simp only[abc,ah, *];simp only[qS,h1,h2,gN,dW]
 |true=>
 cases h3:cr 0 y with
 |false=>
  simp only[dJ,bP,ah,aB,j0,Aw,EB,h1,h2,h3];refine eA ⟨rfl,.inr rfl,dZ ?_ rfl⟩;simp only[abc,ah, *];simp only[qS,h1,h2,h3,gN,dW]
 |true=>
  simp only[dJ,bP,ah,aB,j0,Aw,EB,h1,h2,h3];refine eA ⟨rfl,.inr rfl,dZ ?_ rfl⟩;simp only[abc,ah, *];simp only[qS,h1,h2,h3,eH]
def anR:db ae 168 FX:=by
 intro args u c G h w d i j;unfold FX at c;split at c;rename_i x y;injection c with c;subst c
 exact ni (Q:=QT []) (mW .nil) (fun _=>nB 1) (args:=[.agg [.int .i64 x,.int .i64 y]]) (v:=.bool (qS x y)) (s':=s0) rfl (anS (sp:=fun f=>gL f []) rfl x y s0) rfl ⟨1,rfl⟩ G h w d i j;cases c
def T4:dX:=(162,GV)::(165,CJ)::(168,FX)::(164,DD)::T3
def Rt:dR T4:=.cons asT (.cons alz (.cons anR (.cons ary Rs)))
def yT(P:Program)(t:TypeId)(off:Nat):Option aR->Option aa
 |some (.cells cs)=>js P t cs off
 |some (.fix (.cells cs))=>js P t cs off
 |_=>none
theorem aW(P:Program)(mk:aK)(t:TypeId)(n off:Nat)(lc:Ag.Loc)(s:St):mr P mk t (.ptr n off) lc s=yT P t off (s.get mk n):=by
 simp only[mr];cases s.get mk n with
 |none=>rfl
 |some o=>
  cases o with
  |fix o=>cases o<;>rfl
  |_=>rfl
def OM(P:Program)(t:TypeId)(off:Nat)(cs:List aa):yT P t off (some (.fix (.cells cs)))=js P t cs off:=rfl
theorem aY(P:Program)(t:TypeId)(off:Nat)(cs:List aa):yT P t off (some (.cells cs))=js P t cs off:=rfl
noncomputable def KL(lc:Ag.Loc)(s:St)(m off:Nat)(v:aa):Option aR->Option (Ag.Loc×St)
 |some (.cells cs)=>(fL cs off v.cells).bind fun c=>some (lc,s.put m (some (.cells c)))
 |_=>none
def dn(P:Program)(mk:aK)(t:TypeId)(m off:Nat)(v:aa)(lc:Ag.Loc)(s:St):ui P mk t (.ptr m off) v lc s=(dI P t).bind fun n=>bif aQ v.cells.length n&&bm 0 n then KL lc s m off v (s.get mk m) else none:=by
 simp only[ui];cases s.get mk m with
 |none=>rfl
 |some o=>cases o<;>rfl
def dp(lc:Ag.Loc)(s:St)(m off:Nat)(v:aa)(cs:List aa):KL lc s m off v (some (.cells cs))=(fL cs off v.cells).bind fun c=>some (lc,s.put m (some (.cells c))):=rfl
variable{fr:Fr}{N:Fr->St->Prop}{args:List aa}{l:List aw}
section
variable{Q:aH}{f:FuncId}
def Lv(n:Nat)(h:WP Q f (l.take n) fr s fun fr s=>WL Q f (l.drop n) fr s N):WL Q f l fr s N:=by
 obtain⟨i,j,d,c⟩:=h
 have:=WL.app d c;rwa [List.take_append_drop] at this
def Lu{d:Tmp}{x:Operand}{av:Array Operand}{c:Array TypeId}{e:ax}{sz:Nat}{lc:Ag.Loc}{s1:St}{g:FuncId}(p:callee e ⟨.value x,av,c⟩=some (g,args))(h:aq Q g args s v s1)(j:d<sz)(i:WL Q f l ⟨e.set d (some v),sz,lc⟩ s1 N):
 WL Q f (⟨some d,.call ⟨.value x,av,c⟩,.aw⟩::l) ⟨e,sz,lc⟩ s N:=
 WL.call rfl rfl (fun b=>by simp) p h (gK.2 ⟨j,rfl⟩) i
def Ls(h:WP Q f l fr s N):WL Q f l fr s N:=let⟨_,_,h1,h2⟩:=h;WL.run h1 h2
end
structure Obj where
 id:ag
 nR:Int
 x:Int
 y:Int
 refsV:aa
 tagsV:aa
 gE:List ag
 gT:List fE
def Obj.cells(o:Obj):List aa:=[.str o.id,.int .i64 o.nR,.int .i64 o.x,.int .i64 o.y,o.refsV,o.tagsV]
def Obj.val(o:Obj):aa:=.agg o.cells
structure Obj.Ok (o:Obj):Prop where
 gE:ay 1 aG o.refsV o.gE
 gT:ay 2 jd o.tagsV o.gT
 id:o.id.length<small
 reflen:o.gE.length<small
 ref: ∀r∈o.gE,r.length<small
 taglen:o.gT.length<small
 key: ∀t∈o.gT,t.1.length<small
def vN(c:List ag):List (ag×aa):=c.map fun k=>(k,.bool true)
def Xx(k:ag): ∀c,look k (vN c)=bif c.contains k then some (.bool true) else none
 | []=>rfl
 |a::c=>by
  have d:=Xx k c;simp only[vN,fy,look,List.contains_cons] at d ⊢;rw[d];cases k==a<;>simp
def amj(k:ag)(c:List ag):(look k (vN c)).getD (.bool false)= .bool (c.contains k):=by
 rw[Xx];cases c.contains k<;>rfl
def Ad(k:ag)(c:List ag):List ag:=bif c.contains k then c else c++[k]
def Vt(k:ag): ∀c,tC k (.bool true) (vN c)=vN (Ad k c)
 | []=>rfl
 |a::c=>by
  have d:=Vt k c;simp only[vN,fy,tC,Ad,List.contains_cons] at d ⊢;cases h:k==a with
  |true=>
   have:k=a:=by simpa using h
   subst this;simp
  |false=>
   simp only[cF,kg,d];cases c.contains k<;>simp
def DJ(nR:Int)(last:ag)(seen:List ag)(r:ag):Bool:=((an nR 2&&(r==last))||(an nR 3&&seen.contains r))|| !gU r
structure n7 (s:St) (o:Obj) (po pl ps m:Nat) (last:ag) (seen:List ag):Prop where
 ho:s.get [] po=some (.cells o.cells)
 hl:s.get [] pl=some (.cells [.str last])
 hs:s.get [] ps=some (.cells [.map m])
 hm:s.get [] m=some (.map (nI 0 (vN seen)) (vN seen).length)
 d1:(pl==m)=false
 d2:(po==m)=false
 d3:(po==pl)=false
 d4:(ps==m)=false
 d5:(ps==pl)=false
 d6:(m==pl)=false
noncomputable def n7.aL(s:St)(pl m:Nat)(seen:List ag)(r:ag):St:=(s.put m (some (.map (nI 0 (vN (Ad r seen))) (vN (Ad r seen)).length))).put pl (some (.cells [.str r]))
variable{seen:List ag}{pl po ps:Nat}{o:Obj}{last:ag}
def n7.after(c:n7 s o po pl ps m last seen)(r:ag):n7 (n7.aL s pl m seen r) o po pl ps m r (Ad r seen):=by
 refine⟨?_,?_,?_,?_,c.d1,c.d2,c.d3,c.d4,c.d5,c.d6⟩<;>simp only[n7.aL,aX,c.d1,c.d2,c.d3,c.d4,c.d5,c.d6,bS,cT,cF,c.ho,c.hs]
section
variable{sp:SpZ}(h94:sp 163=some jq)
include h94
theorem as0(h97:sp 166=none)(c:n7 s o po pl ps m last seen){r:ag}(C:r.length<small):
 aq (QS sp) 166 [.str r,.ptr po 0,.ptr pl 0,.ptr ps 0] s (.bool (DJ o.nR last seen r)) (n7.aL s pl m seen r):=by
 have u:=y7 C;have h:=aml ME yZ GY c.hm r;rw[amj] at h;have i:=asr ME yZ c.hm r (.bool true);rw[Vt] at i;have j:=c.ho;have p:=c.hl;have q:=c.hs;have F:=c.d1;refine l8 IG.1 IG.2 IG.3 IG.4 h97 ?_;refine bt ?_;simp only[dJ,aaA,gI,aB,bQ,cK];refine bt ?_;have d: ∀e b,ac e 0= .str r->ac e 1= .ptr po 0->ac e 2= .ptr pl 0->ac e 3= .ptr ps 0->ac e 6= .bool b->b=((an o.nR 2&&(r==last))||(an o.nR 3&&seen.contains r))->W (QS sp) 166 (.seq (.region aiq) (.seq (.region air) .ret)) ⟨e,34,[]⟩ s fun x w y=>y=n7.aL s pl m seen r/\(x= .normal\/x= .ret)/\ ∃vs,jt (QS sp) [] w y [.tmp 5]=some vs/\nT vs= .bool (DJ o.nR last seen r):=by
  intro e b B G E D A z;refine bt ?_;simp only[dJ,FbZ,fL,df,bP,ah,aB,cK,Gn,aW,aY,dn,dp,aX,B,E,D,q,p,i,F];refine bt ?_;cases b with
  |true=>
   simp only[dJ,ah,aB,A];refine eA ⟨rfl,.inr rfl,dZ ?_ rfl⟩;simp only[abc,ah, *];simp only[DJ,<-z,iR]
  |false=>
   simp only[dJ,ah,aB,B,A,h94,u];refine eA ⟨rfl,.inr rfl,dZ ?_ rfl⟩;simp only[abc,ah, *];simp only[DJ,<-z,kg]
 cases hk2:an o.nR 2 with
 |true=>
  cases he:r==last with
  |true=>
   simp only[dJ,bP,ah,aB,j0,iB,pQ,aW,aY,j,p,Obj.cells,hk2,he];refine d _ true ?_ ?_ ?_ ?_ ?_ (by simp only[hk2,he,cw,iR])<;>simp only[abc,ah, *]
  |false=>
   cases hk3:an o.nR 3 with
   |true=>
    simp only[dJ,bP,ah,aB,j0,iB,Gn,pQ,aW,aY,j,q,p,Obj.cells,hk2,he,hk3,h];refine d _ (seen.contains r) ?_ ?_ ?_ ?_ ?_ (by simp only[hk2,he,hk3,gN,kg,eH])<;>simp only[abc,ah, *]
   |false=>
    simp only[dJ,bP,ah,aB,j0,iB,pQ,aW,aY,j,p,Obj.cells,hk2,he,hk3];refine d _ false ?_ ?_ ?_ ?_ ?_ (by simp only[hk2,he,hk3,gN,kg,dW])<;>simp only[abc,ah, *]
 |false=>
  cases hk3:an o.nR 3 with
  |true=>
   simp only[dJ,bP,ah,aB,j0,Gn,pQ,aW,aY,j,q,Obj.cells,hk2,hk3,h];refine d _ (seen.contains r) ?_ ?_ ?_ ?_ ?_ (by simp only[hk2,hk3,dW,kg,eH])<;>simp only[abc,ah, *]
  |false=>
   simp only[dJ,bP,ah,aB,j0,pQ,aW,aY,j,Obj.cells,hk2,hk3];refine d _ false ?_ ?_ ?_ ?_ ?_ (by simp only[hk2,hk3,kg,dW])<;>simp only[abc,ah, *]
end
def aq.ofEx{Q:aH}{f:FuncId}{fn:Func}{j:SC}{rs:List ResultVar}{R:aa->St->Prop}(w:Q.P.funcs[f]? =some fn)(y:fn.body.map eD=some j)(u:fn.ntmps=n)(q:fn.results.toList=rs)(i:Q.spec f=none)(h:W Q f j (aaA n args) s fun x c d=>(x= .normal\/x= .ret)/\ ∃v,(∃vs,jt Q [] c d rs=some vs/\nT vs=v)/\R v d)(A:Q.specH f=none:=by rfl)(z:Q.specW f=none:=by rfl): ∃v p,aq Q f args s v p/\R v p:=by
 obtain⟨x,c,d,E,D,v,C,B⟩:=h;exact⟨v,d,l8 w y u q i ⟨x,c,d,E,rfl,D,C⟩ A z,B⟩
def pK(nR:Int):ag->List ag->List ag->Bool
 |_,_,[]=>false
 |last,seen,r::rs=>DJ nR last seen r||pK nR r (Ad r seen) rs
def B4(po pl ps:Nat):aa:=.func (.func 166) [] [.ptr po 0,.ptr pl 0,.ptr ps 0]
def Tn(po pl ps:Nat):(B4 po pl ps).ge=true:=rfl
variable{l:List ag}
section
variable{sp:SpZ}(h94:sp 163=some jq)(h97:sp 166=none)
include h94 h97
theorem ahf(G:ay 1 aG v l)(O: ∀r∈l,r.length<small)(A:l.length<small): ∀(j d:List ag) (e:ax) (lc:Ag.Loc) (s:St) (last:ag) (seen:List ag),l=d++j->n7 s o po pl ps m last seen->
 ac e 0=v->ac e 1=B4 po pl ps->ac e 7= .int .i64 (l.length:Nat)->ac e 8= .int .i64 (d.length:Nat)->
 W (QS sp) 261 (.loop IU) ⟨e,19,lc⟩ s fun x fr F=>(∃u q,n7 F o po pl ps m u q)/\F.ci=s.ci/\fr.size=19/\((x= .exit 0/\pK o.nR last seen j=false)\/(x= .ret/\(∃i:Nat,ac fr.env 4= .int .i64 (i:Int))/\pK o.nR last seen j=true)):=by
 intro j
 induction j with
 |nil=>
  intro d e lc s last seen p c I H E z;have w:l.length=d.length:=by rw[p];simp
  refine kp ?_;refine bt ?_;simp only[dJ,aB,E,z,w,cD];refine cU (W.cnFZ ?_);exact W.exit ⟨⟨last,seen,c⟩,rfl,rfl,.inl ⟨rfl,rfl⟩⟩
 |cons r j J=>
  intro d e lc s last seen p c I H E z;have C:d.length<l.length:=by rw[p];simp
  have y:l[d.length]? =some r:=by rw[p];simp
  have D:=fun lc=>G.at cH.2.2.1 y lc .i64;have R:=G.ge;have M:=O r (eP y);have K:=ajJ;have B:=ale (n:=d.length) (by omega);refine kp ?_;refine bt ?_;simp only[dJ,aB,E,z,C];refine cU (ak9 (fX ?_));refine cU (jR ?_);refine bt ?_;simp only[dJ,ah,aB,z];refine cU (W.region (Lv 5 ?_));simp only[dJ,df,bP,ah,aB,iB,I,H,D,aG];refine Lu (g:=166) (args:=[.str r,.ptr po 0,.ptr pl 0,.ptr ps 0]) ?_ (as0 h94 h97 c M) (by decide) ?_;simp only[dJ,callee,B4,ah];refine Ls ?_;simp only[aN,dq];cases hw:DJ o.nR last seen r with
  |true=>
   refine ak9 (bt ?_);simp only[dJ,ah,aB];refine eA ⟨⟨_,_,c.after r⟩,rfl,rfl,.inr ⟨rfl,⟨d.length,?_⟩,by simp[pK,hw]⟩⟩;simp only[abc,ah, *]
  |false=>
   refine ak7 ?_;simp only[nH,dq];refine W.reg ?_;simp only[dJ,FlZ,ah,aB,z,B];refine(J (d++[r]) _ _ _ r (Ad r seen) (by rw[p];simp) (c.after r) (by simp only[abK,ah, *]) (by simp only[abK,ah, *]) (by simp only[abK,ah, *]) (by simp only[abc,adz,ah])).mono ?_;simp only[pK,hw,kg];exact fun _ _ _ h=>h
theorem ahg(h157:sp 261=none)(B:ay 1 aG v l)(G: ∀r∈l,r.length<small)(d:l.length<small)(c:n7 s o po pl ps m last seen):
 ∃u y,aq (QS sp) 261 [v,B4 po pl ps] s u y/\((∃j h,n7 y o po pl ps m j h)/\y.ci=s.ci/\ ∃z:Int,u= .int .i64 z/\cr 0 z=pK o.nR last seen l):=by
 have q:=fun F s=>B.lenS cH F s;have C:=B.ge;refine aq.ofEx Fd.1 Fd.2 Fd.3 Fd.4 h157 ?_;refine bt ?_;simp only[dJ,aaA,gI,aB,bQ,cK];refine cU (bt ?_);simp only[dJ,ah,aB,C,q];refine jR ?_;refine(ahf h94 h97 B G d l [] _ _ s last seen rfl c (by simp only[abc,ah, *]) (by simp only[abc,ah, *]) (by simp only[abc,ah, *]) (by simp only[abc,ah];rfl)).mono ?_;rintro x ⟨e,E,I⟩ y ⟨D,w,A,⟨rfl,p⟩|⟨rfl,⟨i,H⟩,p⟩⟩;have A:E=19:=A;subst A;show W (QS sp) 261 _ _ _ _;refine bt ?_;simp only[agI,cC,aB];refine eA ⟨.inr rfl,.int .i64 (-1),dZ ?_ rfl,D,w, -1,rfl,by rw[p];rfl⟩;simp only[aj,ah,cT, *];exact⟨.inr rfl,.int .i64 i,dZ H rfl,D,w,i,rfl,by rw[p];simp[cr]⟩
theorem agL(h157:sp 261=none)(h98:sp 167=none)(w:ay 1 aG v l)(A: ∀r∈l,r.length<small)(d:l.length<small)(c:n7 s o po pl ps m last seen):
 ∃u j,aq (QS sp) 167 [v,B4 po pl ps] s u j/\((∃i h,n7 j o po pl ps m i h)/\j.ci=s.ci/\u= .bool (pK o.nR last seen l)):=by
 obtain⟨u,C,y,B,q,z,rfl,x⟩:=ahg h94 h97 h157 w A d c;have p:=w.ge;refine aq.ofEx EZ.1 EZ.2 EZ.3 EZ.4 h98 ?_;refine bt ?_;simp only[dJ,aaA,gI,aB,bQ,cK];refine cU (W.region (Lv 2 ?_));simp only[dJ,df,bP,ah,aB];refine Lu (g:=261) ?_ y (by decide) ?_;simp only[dJ,callee,p,Tn,ah];refine Ls ?_;simp only[dJ,FlZ,ah,aB,x];refine eA ⟨.inr rfl,_,dZ (v:=.bool (pK o.nR last seen l)) ?_ rfl,B,q,rfl⟩;simp only[abc,ah, *]
end
def oo(o:Obj):Bool:=(pE o.nR== [])|| !gU o.id|| !mD o.gT||decide (o.gE.length<tJ o.nR)||decide (2000<o.gE.length)
def DK(o:Obj):Bool:=an o.x 0&&an o.y 0
def gH(o:Obj):Bool:=bif oo o then false else bif pK o.nR [] [] o.gE then false else bif an o.nR 1 then(o.gE.length==0)&&qS o.x o.y else bif an o.nR 5 then(o.gE.length==3)&&DK o else DK o
def LD(P:Program)(t:TypeId)(a b:List aa):eB P .eql t (.agg a) (.agg b)=(wP P t (.agg a) (.agg b)).bind fun b=>some (.bool b):=rfl
def acC(P:Program)(t:TypeId)(a b:List aa):eB P .neq t (.agg a) (.agg b)=(wP P t (.agg a) (.agg b)).bind fun b=>some (.bool !b):=rfl
def PJ(a b c d:Int):eB ae .eql 49 (.agg [.int .i64 a,.int .i64 b]) (.agg [.int .i64 c,.int .i64 d])=some (.bool (bif an a c then bif an b d then true else false else false)):=by
 have h:wP ae 49 (.agg [.int .i64 a,.int .i64 b]) (.agg [.int .i64 c,.int .i64 d])=(some (an a c)).bind fun r=>bif r then(some (an b d)).bind fun r=>bif r then some true else some false else some false:=by kernel_rfl
 rw[LD,h];cases an a c<;>cases an b d<;>rfl
def Zm(a b:Int):(bif an a 0 then bif an b 0 then true else false else false)=(an a 0&&an b 0):=by
 cases an a 0<;>cases an b 0<;>rfl
def asU(h:(pE k== [])=false):(cr 0 k&&bc k 6)=true:=by
 by_cases h1:0<=k/\k<6;simp[cr,bc,h1.1,h1.2];have c:pE k=[]:=by
  simp only[pE,oq (show k≠1 by omega),oq (show k≠2 by omega),oq (show k≠3 by omega),oq (show k≠4 by omega),oq (show k≠5 by omega),cF]
 rw[c] at h;cases h
def Cq(s:St)(mk:aK)(n:Nat):s.top.get mk n=s.get mk n:=rfl
def aly(h:(cr 0 k&&bc k 6)=true):CJ [.int .i64 k]=some (.int .i64 (tJ k:Nat)):=by
 simp only[CJ,h,cT]
section
variable{sp:SpZ}(h93:sp 162=some GV)(h94:sp 163=some jq)(h95:sp 164=some DD)(h96:sp 165=some CJ)(h99:sp 168=some FX)(h97:sp 166=none)(h98:sp 167=none)(h157:sp 261=none)
include h93 h94 h95 h96 h99 h97 h98 h157
theorem anC(h48:sp 75=none)(z:o.Ok): ∃v A,aq (QS sp) 75 [o.val] s0 v A/\(v= .bool (gH o)/\A.ci=0):=by
 have q:=y7 z.id;have B:=arx z.gT z.taglen z.key;have p:GV [.int .i64 o.nR]=some (.str (pE o.nR)):=rfl;have i:=fun mk s=>z.gE.lenS cH mk s;have j:=z.gE.ge;have C:=z.gT.ge;refine aq.ofEx Jw.1 Jw.2 Jw.3 Jw.4 h48 ?_;refine bt ?_;simp only[dJ,aaA,gI,aB,cK,Na,Obj.val];have V:s0.aL=0:=rfl;have T: ∃w,s0.new (.cells o.cells)=w/\w.get [] 0=some (.cells o.cells)/\w.gt<=w.aL/\w.aL=1/\w.ci=0:=⟨_,rfl,by rw[fk];rfl,Nat.zero_le _,rfl,rfl⟩;obtain⟨w,e1,F,m1,O,H⟩:=T;rw[e1,V];refine cU (W.sdrawQ m1 ?_);have fin: ∀e Y,ac e 36= .bool true->W (QS sp) 75 (.cond (aD 36) (.seq (.region alg) .ret) .skip) ⟨e,72,Y⟩ w fun x fr A=>x= .ret/\A=w/\ac fr.env 2= .bool false:=by
  intro e Y h;refine cQ (t:=true) (by simp only[aA,h]) (bt ?_);simp only[agI,dl,aB];exact eA ⟨rfl,rfl,by simp only[aj,ah,cT, *]⟩
 cases hb1:pE o.nR== [] with
 |true=>
  simp only[dJ,isStore,bP,ah,aB,j0,pQ,aW,aY,Cq,F,Obj.cells,h93,p,hb1];refine(fin _ _ ?_).mono ?_;simp only[abc,ah, *];rintro x fr A ⟨rfl,rfl,h⟩;exact⟨.inr rfl,_,dZ h rfl,by simp[gH,oo,hb1],H⟩
 |false=>
 have hk:=asU hb1;have E:=aly hk;cases hb2:gU o.id with
 |false=>
  simp only[dJ,isStore,bP,ah,aB,j0,iB,rD,pQ,aW,aY,Cq,F,Obj.cells,h93,p,hb1,h94,q,hb2];refine(fin _ _ ?_).mono ?_;simp only[abc,ah, *];rintro x fr A ⟨rfl,rfl,h⟩;exact⟨.inr rfl,_,dZ h rfl,by simp[gH,oo,hb2],H⟩
 |true=>
 cases hb3:mD o.gT with
 |false=>
  simp only[dJ,isStore,bP,ah,aB,j0,iB,sk,rD,pQ,rE,aW,aY,Cq,F,Obj.cells,h93,p,hb1,h94,q,hb2,h95,B,C,hb3];refine(fin _ _ ?_).mono ?_;simp only[abc,ah, *];rintro x fr A ⟨rfl,rfl,h⟩;exact⟨.inr rfl,_,dZ h rfl,by simp[gH,oo,hb3],H⟩
 |true=>
 cases hb4:decide (o.gE.length<tJ o.nR) with
 |true=>
  simp only[dJ,isStore,bP,ah,aB,j0,iB,nV,sk,rD,pQ,nJ,rE,aW,aY,Cq,F,Obj.cells,h93,p,hb1,h94,q,hb2,h95,B,C,hb3,j,i,h96,E,hb4];refine(fin _ _ ?_).mono ?_;simp only[abc,ah, *];rintro x fr A ⟨rfl,rfl,h⟩;exact⟨.inr rfl,_,dZ h rfl,by simp[gH,oo,hb4],H⟩
 |false=>
 have I:bc 2000 (o.gE.length:Nat)=decide (2000<o.gE.length):=fB 2000 _;cases hb5:decide (2000<o.gE.length) with
 |true=>
  simp only[dJ,isStore,bP,ah,aB,j0,iB,nV,sk,rD,pQ,nJ,rE,aW,aY,Cq,F,Obj.cells,h93,p,hb1,h94,q,hb2,h95,B,C,hb3,j,i,h96,E,hb4,I,hb5];refine(fin _ _ ?_).mono ?_;simp only[abc,ah, *];rintro x fr A ⟨rfl,rfl,h⟩;exact⟨.inr rfl,_,dZ h rfl,by simp[gH,oo,hb5],H⟩
 |false=>
 have c:oo o=false:=by simp only[oo,hb1,hb2,hb3,hb4,hb5];rfl
 simp only[dJ,isStore,bP,ah,aB,j0,iB,nV,sk,rD,pQ,nJ,rE,aW,aY,Cq,F,Obj.cells,h93,p,hb1,h94,q,hb2,h95,B,C,hb3,j,i,h96,E,hb4,I,hb5];refine ak7 ?_;simp only[dq];refine bt ?_;simp only[dJ,FbZ,fL,df,bP,ah,aB,bQ,cK,Na,m7,dn,fk,Pa,O,dp,aa.cells];refine bt ?_;simp only[dJ,FbZ,fL,df,bP,ah,aB,bQ,cK,Na,dn,fk,aX,Pa,lR,O,dp];refine bt ?_;simp only[dJ,ah,aB,rR];have S: ∃K,((((w.new (.map [] 0)).new (.cells [.nilm])).put 2 (some (.cells [.map 1]))).new (.cells [.str []])).put 3 (some (.cells [.str []]))=K/\n7 K o 0 3 2 1 [] []/\K.ci=0:=by
  refine⟨_,rfl,⟨?_,?_,?_,?_,rfl,rfl,rfl,rfl,rfl,rfl⟩,H⟩<;>simp only[fk,aX,Pa,lR,O,F,ah,bQ,cT,cF]<;>rfl
 obtain⟨K,e2,D,c2⟩:=S;rw[e2];obtain⟨u,s3,hr,⟨R,M,c3⟩,d,rfl⟩:=agL h94 h97 h157 h98 z.gE z.ref z.reflen D;have g2:=D.ho;have G:=c3.ho;have d:s3.ci=0:=d.trans c2;have J:aa.func (.func 166) [] [.ptr 0 0,.ptr 3 0,.ptr 2 0]=B4 0 3 2:=rfl;rw[J];refine cU (cU (W.region (Lv 3 ?_)));simp only[dJ,df,bP,ah,aB,nV,nJ,aW,aY,g2,Obj.cells];refine Lu (g:=167) ?_ hr (by decide) ?_;simp only[dJ,j,Tn,ah];refine Ls ?_;simp only[aN,dq];cases hw:pK o.nR [] [] o.gE with
 |true=>
  refine ak9 (bt ?_);simp only[agI,dl,aB];refine eA ⟨.inr rfl,_,dZ (v:=.bool false) ?_ rfl,?_,d⟩;simp only[abc,ah, *];simp[gH,c,hw]
 |false=>
 refine ak7 ?_;simp only[dq];refine cU (bt ?_);simp only[dJ,bP,ah,aB,j0,pQ,aW,aY,G,Obj.cells];refine jR (bt ?_);simp only[dJ,ah,aB];have e0:an (o.gE.length:Int) 0=(o.gE.length==0):=Cu _ 0;have Z:an (o.gE.length:Int) 3=(o.gE.length==3):=Cu _ 3;cases hk1:an o.nR 1 with
 |true=>
  refine ak9 (bt ?_);have U:FX [.agg [.int .i64 o.x,.int .i64 o.y]]=some (.bool (qS o.x o.y)):=rfl;cases hz:o.gE.length==0 with
  |true=>
   simp only[dJ,cut,df,bP,ah,aB,bQ,nV,Gp,EC,nJ,aW,aY,G,Obj.cells,j,i,e0,hz,h99,U];refine eA ⟨.inr rfl,_,dZ (v:=.bool (qS o.x o.y)) ?_ rfl,?_,d⟩;simp only[abc,ah, *];simp[gH,c,hw,hk1,hz]
  |false=>
   simp only[dJ,bP,ah,aB,nV,nJ,aW,aY,G,Obj.cells,j,i,e0,hz];refine eA ⟨.inr rfl,_,dZ (v:=.bool false) ?_ rfl,?_,d⟩;simp only[abc,ah, *];simp[gH,c,hw,hk1,hz]
 |false=>
  refine W.cnFZ (bt ?_);simp only[dJ,ah,aB];cases hk5:an o.nR 5 with
  |true=>
   refine ak9 (bt ?_);cases hz:o.gE.length==3 with
   |true=>
    simp only[dJ,FbZ,cut,df,bP,ah,aB,bQ,HA,nV,Gp,EC,nJ,aW,aY,G,Obj.cells,j,i,Z,hz,bg,PJ,Zm];refine eA ⟨.inr rfl,_,dZ (v:=.bool (an o.x 0&&an o.y 0)) ?_ rfl,?_,d⟩;simp only[abc,ah, *];simp[gH,c,hw,hk1,hk5,hz,DK]
   |false=>
    simp only[dJ,bP,ah,aB,nV,nJ,aW,aY,G,Obj.cells,j,i,Z,hz];refine eA ⟨.inr rfl,_,dZ (v:=.bool false) ?_ rfl,?_,d⟩;simp only[abc,ah, *];simp[gH,c,hw,hk1,hk5,hz]
  |false=>
   refine ak7 ?_;simp only[nH,dq];refine bt ?_;simp only[dJ,FbZ,cut,df,bP,ah,aB,bQ,HA,Gp,EC,aW,aY,G,Obj.cells,bg,PJ,Zm];refine eA ⟨.inr rfl,_,dZ (v:=.bool (an o.x 0&&an o.y 0)) ?_ rfl,?_,d⟩;simp only[abc,ah, *];simp[gH,c,hw,hk1,hk5,DK]
end
def Dt:List ag->Bool
 | []=>true
 |t::l=>bm t.length small&&Dt l
def aar: ∀ {l:List ag},Dt l=true-> ∀t∈l,t.length<small
 | [],_,_,h=>by cases h
 |a::l,h,t,c=>by
  simp only[Dt,bu] at h;rcases fc.1 c with rfl|c
  exact fW h.1;exact aar h.2 t c
def aas: ∀ {l:List ag},(∀t∈l,t.length<small)->Dt l=true
 | [],_=>rfl
 |a::l,h=>by
  simp only[Dt,bu];exact⟨cP (h a (by simp)),aas fun t c=>h t (by simp[c])⟩
def JH(id:ag)(k x y:Int)(rv d:aa)(rs:List ag)(c:List fE):Option Obj:=
 bif bL rv&&bL d&&bm id.length small&&bm rs.length small&&Dt rs&&bm c.length small&&Bl c then some ⟨id,k,x,y,rv,d,rs,c⟩ else none
def wA:aa->Option Obj
 | .agg [.str id,.int .i64 k,.int .i64 x,.int .i64 y,rv,tv]=>(eX 1 jl rv).bind fun d=>(eX 2 uS tv).bind fun c=>JH id k x y rv tv d c
 |_=>none
structure Obj.oM (o:Obj):Prop extends o.Ok where
 pr:bL o.refsV=true
 pt:bL o.tagsV=true
def LN(h:wA v=some o):v=o.val/\o.oM:=by
 unfold wA at h;split at h;simp only[ak] at h;obtain⟨A,y,z,x,h⟩:=h;unfold JH at h;obtain⟨c,h⟩:=bh h;simp only[bu] at c;obtain⟨⟨⟨⟨⟨⟨w,u⟩,q⟩,p⟩,j⟩,i⟩,d⟩:=c;injection h with h
 subst h;exact⟨rfl,⟨⟨kr (fun v a=>pM) y,kr (fun v a=>Hy) x,fW q,fW p,aar j,fW i,Qa d⟩,w,u⟩⟩;cases h
def Sl(h:o.oM):wA o.val=some o:=by
 show((eX 1 jl o.refsV).bind fun d=>(eX 2 uS o.tagsV).bind fun c=>JH o.id o.nR o.x o.y o.refsV o.tagsV d c)=_;rw[mX oc h.gE,au,mX Hz h.gT,au];unfold JH;have p:bm o.id.length small=true:=cP h.id;have j:bm o.gE.length small=true:=cP h.reflen;have i:bm o.gT.length small=true:=cP h.taglen;rw[h.pr,h.pt,p,j,i,aas h.ref,Qb h.key];rfl
def Obj.oM.pure(h:o.oM):bL o.val=true:=by
 simp only[Obj.val,Obj.cells,bL,pures,h.pr,h.pt,cw]
mutual
def arL: ∀ {v:aa},bL v=true->d8 v=true
 | .agg cs,h=>by simp only[d8];exact xM (by simpa only[bL] using h)
 | .tup cs,h=>by simp only[d8];exact xM (by simpa only[bL] using h)
 | .list _ xs r,h=>by
   simp only[bL,bu] at h;simp only[d8];exact h.1
 | .bool _,_=>rfl
 | .int _ _,_=>rfl
 | .str _,_=>rfl
 | .nilp,_=>rfl
 | .ptr _ _,h=>by simp[bL] at h
 | .rd _ _ _,h=>by simp[bL] at h
 | .ro cs,h=>by simpa only[d8] using h
 | .oZ,_=>rfl
 | .arr _ _ _ _ _,h=>by simp[bL] at h
 | .nilm,_=>rfl
 | .map _,h=>by simp[bL] at h
 | .nilf,_=>rfl
 | .func _ _ _,h=>by simpa only[d8] using h
 | .nili,_=>rfl
 | .iface _ _,h=>by simpa only[d8] using h
def xM: ∀ {l:List aa},pures l=true->eO l=true
 | [],_=>rfl
 |v::l,h=>by
  simp only[pures,bu] at h;simp only[eO,arL h.1,xM h.2,cw]
end
def FS:Sp
 | [v]=>(wA v).bind fun o=>some (.bool (gH o))
 |_=>none
def anw(h:o.oM):FS [o.val]=some (.bool (gH o)):=by
 show(wA o.val).bind _=_;rw[Sl h];rfl
def anx:db ae 75 FS:=by
 intro args u c G h w j p q;unfold FS at c;split at c;rename_i v;simp only[ak,aJ] at c;obtain⟨o,z,rfl⟩:=c;obtain⟨rfl,d⟩:=LN z;obtain⟨v,s',y,rfl,i⟩:=anC (sp:=fun f=>gL f T4) rfl rfl rfl rfl rfl rfl rfl rfl rfl d.toOk;have x:en [o.val]=[o.val]:=lh (by simp only[pures,d.pure,cw]);refine ni (Q:=QT T4) (mW Rt) (fun _=>nB 1) (args:=[o.val]) (v:=.bool (gH o)) (s':=s') ?_ (by rw[x];exact y) i ⟨1,rfl⟩ G h w j p q;exact xM (by simp only[pures,d.pure,cw]);cases c
def nP:ag->List Obj->Bool
 |_,[]=>true
 |last,o::r=>bif !gH o||Ag.leBytes o.id last then false else nP o.id r
def dD(l:List Obj):Bool:=nP [] l&&decide (l.length<=1000000)
variable{l:List Obj}
section
variable{sp:SpZ}(h48:sp 75=some FS)
include h48
theorem amr(J:ay 6 Obj.val v l)(R: ∀o∈l,o.oM)(z:l.length<small): ∀(c d:List Obj) (e:ax) (lc:Ag.Loc) (last:ag),l=d++c->
 ac e 1= .rd 1 1 0->lc.gen 1=1->lc.get 1 1=some [v]->ac e 7=v->ac e 8= .int .i64 (l.length:Nat)->ac e 9= .int .i64 (d.length:Nat)->ac e 3= .str last->
 W (QS sp) 31 (.loop aj2) ⟨e,29,lc⟩ s fun x fr p=>p=s/\fr.size=29/\((x= .exit 0/\ac fr.env 1= .rd 1 1 0/\fr.loc.gen 1=1/\fr.loc.get 1 1=some [v]/\nP last c=true)\/(x= .ret/\ac fr.env 2= .bool false/\nP last c=false)):=by
 intro c
 induction c with
 |nil=>
  intro d e lc last i T E F K G y H;have u:l.length=d.length:=by rw[i];simp
  refine kp ?_;refine bt ?_;simp only[dJ,aB,G,y,u,cD];refine cU (W.cnFZ ?_);refine W.exit ⟨rfl,rfl,.inl ⟨rfl,?_,E,F,rfl⟩⟩;simp only[abK,ah, *]
 |cons o c M=>
  intro d e lc last i T E F K G y H;have C:d.length<l.length:=by rw[i];simp
  have w:l[d.length]? =some o:=by rw[i];simp
  have D:=fun lc=>J.at gX.2.2.1 w lc .i64;have S:=J.ge;have j:=anw (R o (eP w));have O:=ajJ;have A:=ale (n:=d.length) (by omega);simp only[Obj.val,Obj.cells] at j;refine kp ?_;refine bt ?_;simp only[dJ,aB,G,y,C];refine cU (ak9 (fX ?_));simp only[dq];refine cU (jR ?_);refine bt ?_;simp only[dJ,FbZ,cut,fL,df,bP,ah,aB,bQ,cK,Bf,Vb,K,y,D,Obj.val,Obj.cells];refine cU (bt ?_);have fin: ∀I q,ac I 21= .bool true->W (QS sp) 31 (.cond (aD 21) (.seq (.region aj3) .ret) .skip) ⟨I,29,q⟩ s fun x fr p=>x= .ret/\p=s/\fr.size=29/\ac fr.env 2= .bool false:=by
   intro I q h;refine cQ (t:=true) (by simp only[aA,h]) (bt ?_);simp only[agI,dl,aB];exact eA ⟨rfl,rfl,rfl,by simp only[aj,ah,cT, *]⟩
  cases hb1:gH o with
  |false=>
   simp only[dJ,cut,df,bP,ah,aB,bQ,Bf,h48,j,hb1];refine(fin _ _ ?_).mono ?_;simp only[abc,ah, *];rintro x fr p ⟨rfl,rfl,B,h⟩;exact⟨rfl,B,.inr ⟨rfl,h,by simp[nP,hb1]⟩⟩
  |true=>
  cases hb2:Ag.leBytes o.id last with
  |true=>
   simp only[dJ,cut,df,bP,ah,aB,bQ,iB,Bf,rD,h48,j,hb1,hb2,H];refine(fin _ _ ?_).mono ?_;simp only[abc,ah, *];rintro x fr p ⟨rfl,rfl,B,h⟩;exact⟨rfl,B,.inr ⟨rfl,h,by simp[nP,hb2]⟩⟩
  |false=>
   simp only[dJ,cut,df,bP,ah,aB,bQ,iB,Bf,rD,h48,j,hb1,hb2,H];refine ak7 ?_;simp only[dq];refine W.reg ?_;simp only[dJ,FlZ,bP,ah,aB,iB,rD];refine W.reg ?_;simp only[dJ,FlZ,ah,aB,y,A];refine(M (d++[o]) _ _ o.id (by rw[i];simp) (by simp only[abK,ah, *]) (by simp only[dj,ah,cF,E]) (by simp only[cY,ah,cF,F]) (by simp only[abK,ah, *]) (by simp only[abK,ah, *]) (by simp only[abc,adz,ah]) (by simp only[abc,ah, *])).mono ?_;simp only[nP,hb1,hb2,Bool.not_true,kg,cF];exact fun _ _ _ h=>h
theorem amv(w:sp 31=none)(p:ay 6 Obj.val v l)(C: ∀o∈l,o.oM)(c:l.length<small)(s:St):aq (QS sp) 31 [.agg [v]] s (.bool (dD l)) s:=by
 have d:=fun B s=>p.lenS gX B s;have i:=p.ge;refine l8 I8.1 I8.2 I8.3 I8.4 w ?_;refine bt ?_;simp only[dJ,aaA,gI,aB,cK,Vb];refine bt ?_;simp only[agI,my,aB];refine cU (bt ?_);simp only[dJ,bP,ah,aB,zq,yC,i,d];refine jR ?_;refine(amr h48 p C c l [] _ _ [] rfl (by simp only[abc,ah, *]) (by simp only[gw,dj,ah,cT]) (by simp only[cY,ah,cT]) (by simp only[abc,ah, *]) (by simp only[abc,ah, *]) (by simp only[abc,ah];rfl) (by simp only[abc,ah, *])).mono ?_;rintro x ⟨e,A,z⟩ E ⟨rfl,j,⟨rfl,y,q,u,h⟩|⟨rfl,D,h⟩⟩;have j:A=29:=j;subst j;have y:ac e 1= .rd 1 1 0:=y;have q:z.gen 1=1:=q;have u:z.get 1 1=some [v]:=u;show W (QS sp) 31 _ _ _ _;refine bt ?_;simp only[dJ,bP,ah,aB,zq,yC,y,q,u,i,d];refine eA ⟨rfl,.inr rfl,dZ ?_ rfl⟩;simp only[abc,ah,dD,h,eH];exact congrArg aa.bool (EO l.length 1000000);exact⟨rfl,.inr rfl,dZ (by rw[D];simp[dD,h]) rfl⟩
end
def lz:aa->Option (List Obj)
 | .agg [v]=>(eX 6 wA v).bind fun l=>bif bm l.length small then some l else none
 |_=>none
def XC: ∀ {xs:List aa} {l:List Obj},iV wA xs=some l->(∀o∈l,o.oM)
 | [],l,h=>by simp only[iV,aJ] at h;subst h;intro o c;cases c
 |x::xs,l,h=>by
  simp only[iV,ak,aJ] at h;obtain⟨a,i,r,d,rfl⟩:=h;intro o c;rcases fc.1 c with rfl|c
  exact(LN i).2;exact XC d o c
def XD: ∀ {l:List Obj},(∀o∈l,o.oM)->iV wA (l.map Obj.val)=some l
 | [],_=>rfl
 |o::l,h=>by
  have c:=XD (l:=l) fun o d=>h o (List.mem_cons_of_mem _ d);simp only[fy,iV,Sl (h o List.mem_cons_self),au,c]
def rk{u:aa}(h:lz u=some l): ∃v,u= .agg [v]/\ay 6 Obj.val v l/\(∀o∈l,o.oM)/\l.length<small:=by
 unfold lz at h;split at h;rename_i v;simp only[ak] at h;obtain⟨j,c,h⟩:=h;obtain⟨i,h⟩:=bh h;injection h with h;subst h
 refine⟨v,rfl,kr (fun v a h=>(LN h).1) c,?_,fW i⟩;unfold eX at c;split at c;injection c with c;subst c;intro o d;cases d
 obtain⟨_,c⟩:=bh c;exact XC c;cases c;cases h
def uQ(h:ay 6 Obj.val v l)(d: ∀o∈l,o.oM)(c:l.length<small):lz (.agg [v])=some l:=by
 have:eX 6 wA v=some l:=by
  rcases h with⟨rfl,rfl⟩|⟨r,rfl⟩
  rfl;simp only[afo,eX,XD d]
 have q:bm l.length small=true:=cP c;simp only[akZ,lz,this,q]
def Kc(h: ∀o∈l,o.oM):pures (l.map Obj.val)=true:=by
 rw[Bd];intro v c;obtain⟨o,d,rfl⟩:=List.mem_map.1 c;exact(h o d).pure
def qQ(h:ay 6 Obj.val v l)(d: ∀o∈l,o.oM):d8 (.agg [v])=true/\ ∃c,de (.agg [v])= .agg [c]/\ay 6 Obj.val c l:=by
 rcases h with⟨rfl,rfl⟩|⟨r,rfl⟩
 exact⟨rfl,.oZ,rfl,.inl ⟨rfl,rfl⟩⟩;refine⟨by simp only[d8,eO,Kc d,cw],.list 6 (l.map Obj.val) (match r with| .own _=>.no|r=>r),?_,.inr ⟨_,rfl⟩⟩;simp only[de,en,lh (Kc d)];cases r<;>rfl
def jK:Sp
 | [v]=>(lz v).bind fun l=>some (.bool (dD l))
 |_=>none
def A0(h:ay 6 Obj.val v l)(d: ∀o∈l,o.oM)(c:l.length<small):jK [.agg [v]]=some (.bool (dD l)):=by
 simp only[jK,uQ h d c,au]
def T5:dX:=(75,FS)::T4
def abR:dR T5:=.cons anx Rt
def xd:db ae 31 jK:=by
 intro args u c G h w q x z;unfold jK at c;split at c;rename_i v;simp only[ak,aJ] at c;obtain⟨l,j,rfl⟩:=c;obtain⟨v,rfl,j,p,B⟩:=rk j;obtain⟨A,y,d,i⟩:=qQ j p;have d:en [.agg [v]]=[.agg [y]]:=by simp only[en,d]
 exact ni (Q:=QT T5) (mW abR) (fun _=>nB 1) (args:=[.agg [v]]) (v:=.bool (dD l)) (s':=s0) (by simp only[eO,A,cw]) (by rw[d];exact amv (sp:=fun f=>gL f T5) rfl rfl i p B s0) rfl ⟨1,rfl⟩ G h w q x z;cases c
def vF:List ag->Bool
 | []=>true
 |r::l=>bif decide (60<r.length) then false else vF l
def aa4(t:fE):Bool:=bc 300 (IntKind.i64.wrap ((t.1.length:Int)+(t.2.length:Int)))
def vR:List fE->Bool
 | []=>true
 |t::l=>bif aa4 t then false else vR l
def xj(o:Obj):Bool:=decide (12<o.gE.length)||decide (20<o.gT.length)||decide (60<o.id.length)
def pq:List Obj->Bool
 | []=>true
 |o::l=>bif xj o then false else bif vF o.gE then bif vR o.gT then pq l else false else false
def rF(l:List Obj)(n:Int):Bool:=bif bc n (l.length:Nat) then false else pq l
structure Hg (v:aa) (o:Obj) (i g:Nat) (e:ax) (lc:Ag.Loc):Prop where
 h2:ac e 2= .rd 2 1 0
 g2:lc.gen 2=1
 b2:lc.get 2 1=some [v]
 h6:ac e 6= .rd 6 g 0
 g6:lc.gen 6=g
 b6:lc.get 6 g=some o.cells
 h5:ac e 5= .int .i64 (i:Nat)
section
variable{sp:SpZ}
def afE(y:o.Ok){i:Nat}{lc:Ag.Loc}: ∀(c d:List ag) (e:ax),o.gE=d++c->Hg v o i g e lc->ac e 7= .int .i64 (d.length:Nat)->
 W (QS sp) 33 (.loop akf) ⟨e,79,lc⟩ s fun x fr J=>J=s/\ ∃H,fr=⟨H,79,lc⟩/\((x= .exit 2/\Hg v o i g H lc/\vF c=true)\/(x= .ret/\ac H 4= .bool false/\vF c=false)):=by
 intro c;have j:=fun K s=>y.gE.lenS cH K s;have u:=y.gE.ge;have O:=ajJ
 induction c with
 |nil=>
  intro d e h F w;obtain⟨V,G,I,z,p,q,U⟩:=F;have T:o.gE.length=d.length:=by rw[h];simp
  refine kp ?_;refine cU (bt ?_);simp only[dJ,bP,ah,aB,nV,nJ,w,z,p,q,Obj.cells,u,j,T,cD];refine W.cnFZ ?_;refine W.exit ⟨rfl,_,rfl,.inl ⟨rfl,⟨?_,G,I,?_,p,q,?_⟩,rfl⟩⟩<;>simp only[abK,ah, *]
 |cons r c M=>
  intro d e h F w;have Y:=F;obtain⟨V,G,I,z,p,q,U⟩:=F;have B:d.length<o.gE.length:=by rw[h];simp
  have E:o.gE[d.length]? =some r:=by rw[h];simp
  have D:=fun lc=>y.gE.at cH.2.2.1 E lc .i64;have R:=y.reflen;have A:=ale (n:=d.length) (by omega);have C:bc 60 (r.length:Nat)=decide (60<r.length):=fB 60 _;refine kp ?_;refine cU (bt ?_);simp only[dJ,bP,ah,aB,nV,nJ,w,z,p,q,Obj.cells,u,j,B];refine ak9 (fX ?_);simp only[dq];refine cU (jR (bt ?_));simp only[dJ,FbZ,bP,ah,aB,iB,nV,nJ,w,z,p,q,Obj.cells,D,aG,C];cases hb:decide (60<r.length) with
  |true=>
   refine ak9 (bt ?_);simp only[agI,dl,aB];refine eA ⟨rfl,_,rfl,.inr ⟨rfl,?_,by simp only[vF,hb,cT]⟩⟩;simp only[abc,ah, *]
  |false=>
   refine ak7 ?_;simp only[nH,dq];refine W.reg ?_;simp only[dJ,FlZ,ah,aB,w,A];have S:vF (r::c)=vF c:=by simp only[vF,hb,cF]
   rw[S];refine M (d++[r]) _ (by rw[h];simp) ⟨?_,G,I,?_,p,q,?_⟩ ?_;simp only[abK,ah, *];simp only[abK,ah, *];simp only[abK,ah, *];simp only[abc,adz,ah]
def afG(z:o.Ok){i:Nat}(T:s.gt<=s.aL){lc:Ag.Loc}: ∀(c d:List fE) (e:ax),o.gT=d++c->Hg v o i g e lc->ac e 8= .int .i64 (d.length:Nat)->
 W (QS sp) 33 (.loop akg) ⟨e,79,lc⟩ s fun x fr J=>J=s/\ ∃H,fr=⟨H,79,lc⟩/\((x= .exit 4/\Hg v o i g H lc/\vR c=true)\/(x= .ret/\ac H 4= .bool false/\vR c=false)):=by
 intro c;have j:=fun K s=>z.gT.lenS ub K s;have w:=z.gT.ge;have O:=ajJ
 induction c with
 |nil=>
  intro d e h F y;obtain⟨Y,G,I,A,q,u,V⟩:=F;have U:o.gT.length=d.length:=by rw[h];simp
  refine kp ?_;refine cU (bt ?_);simp only[dJ,bP,ah,aB,sk,rE,y,A,q,u,Obj.cells,w,j,U,cD];refine W.cnFZ ?_;refine W.exit ⟨rfl,_,rfl,.inl ⟨rfl,⟨?_,G,I,?_,q,u,?_⟩,rfl⟩⟩<;>simp only[abK,ah, *]
 |cons r c M=>
  intro d e h F y;obtain⟨Y,G,I,A,q,u,V⟩:=F;have C:d.length<o.gT.length:=by rw[h];simp
  have E:o.gT[d.length]? =some r:=by rw[h];simp
  have D:=fun lc=>z.gT.at ub.2.2.1 E lc .i64;have R:=z.taglen;have B:=ale (n:=d.length) (by omega);refine kp ?_;refine cU (bt ?_);simp only[dJ,bP,ah,aB,sk,rE,y,A,q,u,Obj.cells,w,j,C];refine ak9 (fX ?_);simp only[dq];refine cU (jR (W.sdrawQ T ?_));simp only[dJ,FbZ,isStore,bP,ah,aB,iB,sk,rE,tk,Ax,y,A,q,u,Obj.cells,D,jd];cases hb:aa4 r with
  |true=>
   have p:bc 300 (IntKind.i64.wrap ((r.1.length:Int)+(r.2.length:Int)))=true:=hb;refine cQ (t:=true) (by simp only[abc,aA,ah,p]) (bt ?_);simp only[agI,dl,aB];refine eA ⟨rfl,_,rfl,.inr ⟨rfl,?_,by simp only[vR,hb,cT]⟩⟩;simp only[abc,ah, *]
  |false=>
   have p:bc 300 (IntKind.i64.wrap ((r.1.length:Int)+(r.2.length:Int)))=false:=hb;refine cQ (t:=false) (by simp only[abc,aA,ah,p]) (fX ?_);simp only[nH,dq];refine W.reg ?_;simp only[dJ,FlZ,ah,aB,y,B];have S:vR (r::c)=vR c:=by simp only[vR,hb,cF]
   rw[S];refine M (d++[r]) _ (by rw[h];simp) ⟨?_,G,I,?_,q,u,?_⟩ ?_;simp only[abK,ah, *];simp only[abK,ah, *];simp only[abK,ah, *];simp only[abc,adz,ah]
def afD(K:ay 6 Obj.val v l)(hk: ∀o∈l,o.oM)(Y:l.length<small)(hm:s.gt<=s.aL): ∀(c d:List Obj) (e:ax) (lc:Ag.Loc),l=d++c->
 ac e 2= .rd 2 1 0->lc.gen 2=1->lc.get 2 1=some [v]->ac e 5= .int .i64 (d.length:Nat)->
 W (QS sp) 33 (.loop akh) ⟨e,79,lc⟩ s fun x fr A=>A=s/\fr.size=79/\((x= .exit 0/\pq c=true)\/(x= .ret/\ac fr.env 4= .bool false/\pq c=false)):=by
 intro c;have B:=fun H s=>K.lenS gX H s;have M:=K.ge;have a3:=ajJ
 induction c with
 |nil=>
  intro d e lc j h2 R U Z;have K:l.length=d.length:=by rw[j];simp
  refine kp ?_;refine cU (bt ?_);simp only[dJ,bP,ah,aB,zq,yC,h2,R,U,Z,M,B,K,cD];refine W.cnFZ ?_;exact W.exit ⟨rfl,rfl,.inl ⟨rfl,rfl⟩⟩
 |cons o c ih=>
  intro d e lc j h2 R U Z;have a1:d.length<l.length:=by rw[j];simp
  have O:l[d.length]? =some o:=by rw[j];simp
  have a2:=fun lc=>K.at gX.2.2.1 O lc .i64;have G:=(hk o (eP O)).toOk;have a0:=ale (n:=d.length) (by omega);have q:=fun H s=>G.gE.lenS cH H s;have y:=G.gE.ge;have u:=fun H s=>G.gT.lenS ub H s;have C:=G.gT.ge;have V:bc 12 (o.gE.length:Nat)=decide (12<o.gE.length):=fB 12 _;have i2:bc 20 (o.gT.length:Nat)=decide (20<o.gT.length):=fB 20 _;have i3:bc 60 (o.id.length:Nat)=decide (60<o.id.length):=fB 60 _;refine kp ?_;refine cU (bt ?_);simp only[dJ,bP,ah,aB,zq,yC,h2,R,U,Z,M,B,a1];refine ak9 (fX ?_);simp only[dq];refine cU (jR (bt ?_));simp only[dJ,FbZ,cut,fL,df,bP,ah,aB,bQ,cK,zq,Bf,yC,Vc,h2,R,U,Z,a2,Obj.val,Obj.cells];refine cU (bt ?_);have fin: ∀e' I,ac e' 41= .bool true->W (QS sp) 33 (.cond (aD 41) (.seq (.region aki) .ret) .skip) ⟨e',79,I⟩ s fun x fr A=>x= .ret/\A=s/\fr.size=79/\ac fr.env 4= .bool false:=by
   intro e' I h;refine cQ (t:=true) (by simp only[aA,h]) (bt ?_);simp only[agI,dl,aB];exact eA ⟨rfl,rfl,rfl,by simp only[aj,ah,cT, *]⟩
  cases q1:decide (12<o.gE.length) with
  |true=>
   simp only[dJ,bP,ah,aB,nV,nJ,y,q,V,q1];refine(fin _ _ ?_).mono ?_;simp only[abc,ah, *];rintro x fr A ⟨rfl,rfl,J,h⟩;exact⟨rfl,J,.inr ⟨rfl,h,by simp only[pq,xj,q1,iR,cT]⟩⟩
  |false=>
  cases q2:decide (20<o.gT.length) with
  |true=>
   simp only[dJ,bP,ah,aB,nV,sk,nJ,rE,y,q,V,q1,C,u,i2,q2];refine(fin _ _ ?_).mono ?_;simp only[abc,ah, *];rintro x fr A ⟨rfl,rfl,J,h⟩;exact⟨rfl,J,.inr ⟨rfl,h,by simp only[pq,xj,q1,q2,iR,Bool.or_true,cT]⟩⟩
  |false=>
  cases q3:decide (60<o.id.length) with
  |true=>
   simp only[dJ,FbZ,bP,ah,aB,iB,nV,sk,rD,nJ,rE,y,q,V,q1,C,u,i2,q2,i3,q3];refine(fin _ _ ?_).mono ?_;simp only[abc,ah, *];rintro x fr A ⟨rfl,rfl,J,h⟩;exact⟨rfl,J,.inr ⟨rfl,h,by simp only[pq,xj,q1,q2,q3,Bool.or_true,cT]⟩⟩
  |false=>
  have p:xj o=false:=by simp only[xj,q1,q2,q3,Bool.or_false]
  simp only[dJ,FbZ,bP,ah,aB,iB,nV,sk,rD,nJ,rE,y,q,V,q1,C,u,i2,q2,i3,q3];refine ak7 ?_;simp only[dq];refine cU (bt ?_);simp only[agI,cC,aB];refine jR ?_;refine(afE (v:=v) G (i:=d.length) (g:=lc.gen 6+1) o.gE [] _ rfl ⟨?_,?_,?_,?_,?_,?_,?_⟩ ?_).mono ?_;simp only[abK,ah, *];simp only[dj,ah,cF,R];simp only[cY,ah,cF,U];simp only[abc,ah, *];simp only[dj,ah,cT];simp only[cY,bS,cT,Obj.cells];simp only[abK,ah, *];simp only[abc,ah];rfl;rintro x fr A ⟨rfl,e',rfl,⟨rfl,F,z⟩|⟨rfl,h4,z⟩⟩;show W (QS sp) 33 _ _ _ _;refine bt ?_;obtain⟨f2,D,E,f6,S,T,f5⟩:=F;simp only[agI,cC,aB];refine jR ?_;refine(afG (v:=v) G hm (i:=d.length) (g:=lc.gen 6+1) o.gT [] _ rfl ⟨?_,D,E,?_,S,T,?_⟩ ?_).mono ?_;simp only[abK,ah, *];simp only[abK,ah, *];simp only[abK,ah, *];simp only[aj,ah,cT];rfl;rintro x fr A ⟨rfl,a4,rfl,⟨rfl,F,w⟩|⟨rfl,h4,w⟩⟩;show W (QS sp) 33 _ _ _ _;refine W.reg ?_;obtain⟨f2,D,E,f6,S,T,f5⟩:=F;simp only[dJ,FlZ,ah,aB,f5,a0];have hr:pq (o::c)=pq c:=by simp only[pq,p,z,w,cT,cF]
  rw[hr];refine ih (d++[o]) _ _ (by rw[j];simp) ?_ D E ?_;simp only[abK,ah, *];simp only[abc,adz,ah];exact⟨rfl,rfl,.inr ⟨rfl,h4,by simp only[pq,p,z,w,cT,cF]⟩⟩;exact⟨rfl,rfl,.inr ⟨rfl,h4,by simp only[pq,p,z,cF]⟩⟩
def afF(q:sp 33=none)(j:ay 6 Obj.val v l)(z: ∀o∈l,o.oM)(c:l.length<small)(n:Int)(y:s.gt<=s.aL):aq (QS sp) 33 [.agg [v],.int .i64 n] s (.bool (rF l n)) s:=by
 have h:=fun w s=>j.lenS gX w s;have p:=j.ge;refine l8 Je.1 Je.2 Je.3 Je.4 q ?_;refine bt ?_;simp only[dJ,aaA,gI,ah,aB,bQ,cK,Vc];refine cU (bt ?_);simp only[dJ,bP,ah,aB,zq,yC,p,h];cases hb:bc n (l.length:Nat) with
 |true=>
  refine ak9 (bt ?_);simp only[agI,dl,aB];refine eA ⟨rfl,.inr rfl,dZ ?_ rfl⟩;simp only[aj,ah,cT,rF,hb]
 |false=>
  refine ak7 ?_;simp only[dq];refine cU (bt ?_);simp only[agI,cC,aB];refine jR ?_;refine(afD j z c y l [] _ _ rfl (by simp only[abc,ah, *]) (by simp only[gw,dj,ah,cT]) (by simp only[cY,ah,cT]) (by simp only[abc,ah];rfl)).mono ?_;rintro x ⟨e,u,C⟩ B ⟨rfl,i,⟨rfl,d⟩|⟨rfl,A,d⟩⟩;have i:u=79:=i;subst i;show W (QS sp) 33 _ _ _ _;refine bt ?_;simp only[agI,dl,aB];refine eA ⟨rfl,.inr rfl,dZ ?_ rfl⟩;simp only[abc,ah,rF,hb,d];exact⟨rfl,.inr rfl,dZ (by rw[A];simp only[rF,hb,cF,d]) rfl⟩
end
def Cl:Sp
 | [v,.int .i64 n]=>(lz v).bind fun l=>some (.bool (rF l n))
 |_=>none
def afz(h:ay 6 Obj.val v l)(d: ∀o∈l,o.oM)(c:l.length<small)(n:Int):Cl [.agg [v],.int .i64 n]=some (.bool (rF l n)):=by
 simp only[Cl,uQ h d c,au]
def afA:db ae 33 Cl:=by
 intro args u c G h w q x z;unfold Cl at c;split at c;rename_i v n;simp only[ak,aJ] at c;obtain⟨l,j,rfl⟩:=c;obtain⟨v,rfl,j,p,B⟩:=rk j;obtain⟨A,y,d,i⟩:=qQ j p;have d:en [.agg [v],.int .i64 n]=[.agg [y],.int .i64 n]:=by simp only[en,d];rfl
 exact ni (Q:=QT []) (mW .nil) (fun _=>nB 1) (args:=[.agg [v],.int .i64 n]) (v:=.bool (rF l n)) (s':=s0) (by simp only[eO,A];rfl) (by rw[d];exact afF (sp:=fun f=>gL f []) rfl i p B n (Nat.le_refl _)) rfl ⟨1,rfl⟩ G h w q x z;cases c
def EN(a:Int):an a a=true:=bS a
def xL(s:St)(mk:aK)(n:Nat):s.top.get mk n=s.get mk n:=rfl
def aeV:Sp
 | [a,b]=>bif pures [a,b] then(eX 1 jl a).bind fun l=>(eX 1 jl b).bind fun r=>bif bm l.length small then some (.bool (l==r)) else none else none
 |_=>none
def aeW:Sp
 | [a,b]=>bif pures [a,b] then(eX 2 uS a).bind fun l=>(eX 2 uS b).bind fun r=>bif bm l.length small then some (.bool (l==r)) else none else none
 |_=>none
def V1:dX:=[(70,aeV),(373,aeW)]
def lQ(a b:List UInt8):Bool:=decide (a<=b)
def AN(x:List UInt8):List (List UInt8)->List (List UInt8)
 | []=>[x]
 |y::l=>bif Ag.leBytes x y then x::y::l else y::AN x l
def lW:List (List UInt8)->List (List UInt8)
 | []=>[]
 |x::l=>AN x (lW l)
def Ag.leBytes_iff(x y:List UInt8):Ag.leBytes x y=lQ x y:=by
 have h:Ag.leBytes x y=(Op.bytesLess x y||x==y):=rfl;rw[h,Go.Proofs.bytesLess_eq];apply Bool.eq_iff_iff.2;simp only[lQ,zQ,dE,bE];constructor;rintro(h|rfl);exact List.le_of_lt h;exact List.le_refl _;intro h;by_cases e:x=y;exact .inr e;exact .inl (Classical.byContradiction fun c=>e (List.le_antisymm h (List.not_lt.1 c)))
def Ni(x:List UInt8): ∀l,(AN x l).Perm (x::l)
 | []=>.refl _
 |y::l=>by
  simp only[AN];cases Ag.leBytes x y with
  |true=>exact .refl _
  |false=>exact((Ni x l).cons y).trans (.swap x y l)
theorem GG: ∀l,(lW l).Perm l
 | []=>.refl _
 |x::l=>(Ni x _).trans ((GG l).cons x)
def Xf(a b c:List UInt8)(h1:lQ a b=true)(d:lQ b c=true):lQ a c=true:=by
 simp only[lQ,dE] at*;exact List.le_trans h1 d
def Xe(a b:List UInt8):(lQ a b||lQ b a)=true:=by
 simp only[lQ,zQ,dE];exact List.le_total a b
def Vp(x:List UInt8): ∀l,l.Pairwise (fun a b=>lQ a b=true)->(AN x l).Pairwise (fun a b=>lQ a b=true)
 | [],_=>by simp[AN]
 |y::l,h=>by
  simp only[AN];cases e:Ag.leBytes x y with
  |true=>
   rw[Ag.leBytes_iff] at e;refine sD.2 ⟨fun z c=>?_,h⟩;rcases fc.1 c with rfl|c
   exact e;exact Xf _ _ _ e ((sD.1 h).1 z c)
  |false=>
   rw[Ag.leBytes_iff] at e;refine sD.2 ⟨fun z c=>?_,Vp x l (sD.1 h).2⟩;rcases fc.1 ((Ni x l).mem_iff.1 c) with rfl|c
   have:=Xe z y;rw[e,kg] at this;exact this;exact(sD.1 h).1 z c
theorem Qd: ∀l,(lW l).Pairwise (fun a b=>lQ a b=true)
 | []=>.nil
 |x::l=>Vp x _ (Qd l)
def aqV(l:List (List UInt8)):l.mergeSort (fun x y=>decide (x<=y))=lW l:=by
 refine List.Perm.eq_of_pairwise (le:=fun a b=>lQ a b=true) (fun a b _ _ d c=>?_) (List.pairwise_mergeSort Xf Xe l) (Qd l) ((List.mergeSort_perm l _).trans (GG l).symm);simp only[lQ,dE] at d c;exact List.le_antisymm d c
def dz:List UInt8->List UInt8->Int
 | [],[]=>0
 | [],_::_=> -1
 |_::_,[]=>1
 |a::x,b::y=>bif bm a.toNat b.toNat then-1 else bif bm b.toNat a.toNat then 1 else dz x y
def awR:Sp
 | [.str a,.str b]=>some (.int .i64 (dz a b))
 |_=>none
def aAT: ∀(a b:List UInt8),dz a b=Lib.compareBytes a b:=by
 intro a
 induction a with
 |nil=>intro b;cases b<;>rfl
 |cons u x c=>
  intro b;cases b with
  |nil=>rfl
  |cons v y=>
   simp only[dz,Lib.compareBytes,UInt8.lt_iff_toNat_lt,jC,c];by_cases h1:u.toNat<v.toNat;simp[h1];by_cases h2:v.toNat<u.toNat<;>simp[h1,h2]
def aAU:db ae 287 awR:=by
 intro args v c G h w j d i;unfold awR at c;split at c;rename_i a b;injection c with c;subst c
 cases i with
 |cons p q=>
  cases q with
  |cons q r=>
   cases r;cases p;cases q;refine .inl ⟨.int .i64 (Lib.compareBytes a b),w,?_,G,d,.refl,?_⟩
   have:=run_callFunc_extern (P:=ae) (f:=287) (fn:=Tryz.f287) (e:=Extern.BytealgCompare.compare) (by kernel_rfl) (by kernel_rfl) (by kernel_rfl) (by kernel_rfl) (by kernel_rfl) #[.string ⟨⟨a⟩⟩,.string ⟨⟨b⟩⟩] w;rw[show(⟨[Value.string ⟨⟨a⟩⟩,.string ⟨⟨b⟩⟩]⟩:Array Value)= #[.string ⟨⟨a⟩⟩,.string ⟨⟨b⟩⟩] from rfl,this,Lib.run_compareString];rfl;rw[aAT];exact .int _ _
 cases c
