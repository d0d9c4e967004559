/- Lemmas for PartUnits. -/
import Derived.Test.YtnhmcokmdhgpbaaGreatZ1
import Derived.Sort.Walk0
import Derived.Lib.Bytealg
import Derived.Shelf.SortM.Plain
import Derived.Shelf.SortM.SortNone
import Derived.Shelf.SlSortCmp.NoneTotal
import Derived.Ground.SlgmProg
import Derived.Ground.SlsfProg
import Derived.Test.YtnhmcokmdhgpbaaGreatProg
import Derived.Test.YtnhmcokmdhgpbaaGreatAg2
set_option linter.all false
open Option renaming some→X,none→Z,bind_eq_some_iff→an,bind_some→aH,map_eq_some_iff→pH
open Bool renaming true→O,false→I,and_eq_true→bh,and_self→cj,false_and→lO,not_false→ui,not_true→qE,or_eq_true→Az,or_false→AA,or_true→AB,true_and→jf,false_eq_true→EX,not_eq_false'→EY,not_eq_true'→m9,or_eq_false_iff→v6
open List renaming length→J,all_eq_true→fK,cons_append→uj,drop_eq_getElem_cons→yi,drop_eq_nil_of_le→EZ,getElem?_eq_getElem→dp,getElem?_eq_some_iff→gn,length_append→bK,length_cons→bT,map_cons→cU,mem_cons→dG,mem_of_getElem?→co,mem_range→yB,mergeSort_perm→Ix,pairwise_cons→qJ,pairwise_mergeSort→Nu,drop_drop→v9,drop_left→E4,eq_nil_of_length_eq_zero→su,filter_append→Ir,finRange→yx,getElem?_append_left→AG,getElem?_append_right→sw,getElem?_cons_succ→Cp,getElem?_map→gZ,getElem_mem→AI,length_map→bj,length_take→jw,map_append→db,mem_cons_of_mem→iE,mem_cons_self→gG,mem_map→cC,range→g9,replicate→fB,take_append_drop→wq,take_append_of_le_length→Un,take_of_length_le→nh,take_succ_eq_append_getElem→Uo
open Nat renaming beq→aB,ble_eq_true_of_le→bH,blt→bC,le_of_ble_eq_true→im,lt_irrefl→bJ,zero_add→dP,ble→aP,le_refl→aD,le_succ_of_le→cr,lt_or_ge→ip,lt_succ_self→gN,mod_eq_of_lt→Fa,mul_le_mul_right→kX,succ_mul→jR,zero_mul→CA
open Go.Op renaming bytesLess→gQ
open Option.some renaming injEq→aR
open Go.Proofs.Tryz renaming prog→ae
open Go.Ag.W renaming loopC→aF
open Go.Ag.WC renaming sound→aM
open Classical renaming byContradiction→v8
open Int renaming mul_le_mul_of_nonneg_left→Nn
open Prod.mk renaming injEq→bu
theorem Go.d_{p:Prop}(h:p:=by decide):p:=h
namespace Go.Proofs.YtnhmcokmdhgpbaaGreat
open Tryz
open Go.Ag
def small:Nat:=9223372036854775808
def aae:small=9223372036854775808:=rfl
abbrev dw:=ag×ag
def ax(s:ag):aa:=.str s
def bZ(t:dw):aa:=.agg [.str t.1,.str t.2]
abbrev C_:=Option ag
def jB:aa->C_
 |.str s=>X s
 |_=>Z
def sU:aa->Option dw
 |.agg [.str a,.str b]=>X (a,b)
 |_=>Z
def jY{α β:Type}(g:α->Option β):List α->Option (List β)
 |[]=>X []
 |a::l=>(g a).bind λb=>(jY g l).bind λr=>X (b::r)
def fH{α:Type}(n:Nat)(d:aa->Option α):aa->Option (List α)
 |.uP=>X []
 |.list m xs _=>bif aB m n then jY d xs else Z
 |_=>Z
variable{v:aa}
theorem pS{s:ag}(h:jB v=X s):v=ax s:=by
 unfold jB at h;split at h;cases h;rfl;cases h
def Je{t:dw}(h:sU v=X t):v=bZ t:=by
 unfold sU at h;split at h;cases h;rfl;cases h
theorem Hc{α:Type}{d:aa->Option α}{enc:α->aa}(i:∀v a,d v=X a->v=enc a):∀{xs:az}{l:List α},jY d xs=X l->xs=l.map enc
 |[],l,h=>by grind [jY]
 |x::xs,l,h=>by
  simp only[jY,an,aR]at h;obtain⟨a,p,r,j,rfl⟩:=h;rw[cU,<-i x a p,<-Hc i j]
theorem BA{α:Type}{d:aa->Option α}{enc:α->aa}(h:∀a,d (enc a)=X a):∀(l:List α),jY d (l.map enc)=X l
 |[]=>rfl
 |a::l=>by simp only[cU,jY,h,aH,BA h l]
variable{n:Nat}{α:Type}
theorem lX{d:aa->Option α}{enc:α->aa}(i:∀v a,d v=X a->v=enc a){l:List α}(h:fH n d v=X l):aq n enc v l:=by
 unfold fH at h;split at h;injection h with h;exact .inl ⟨rfl,h.symm⟩
 let⟨h1,h2⟩:=bf h
 have:=Nat.eq_of_beq_eq_true h1;subst this;rename_i j r;exact .inr ⟨r,by rw[Hc i h2]⟩;cases h
theorem oo{d:aa->Option α}{enc:α->aa}(i:∀a,d (enc a)=X a){l:List α}(h:aq n enc v l):fH n d v=X l:=by
 rcases h with⟨rfl,rfl⟩|⟨r,rfl⟩<;>grind [fH,BA,fa]
theorem BU{enc:α->aa}(d:∀a,br (enc a)=O)(l:List α):pures (l.map enc)=O:=by
 grind [pures_all]
def qh{enc:α->aa}(d:∀a,br (enc a)=O){l:List α}(h:aq n enc v l):Ag.d8 v=O/\aq n enc (dh v) l:=by
 rcases h with⟨rfl,rfl⟩|⟨r,rfl⟩
 exact⟨rfl,.inl R_⟩;exact⟨by simpa[Ag.d8]using BU d l,.inr (by
  simp only[dh,ky (BU d l)];exact⟨_,rfl⟩)⟩
def qC(s:ag):br (ax s)=O:=rfl
def H6(t:dw):br (bZ t)=O:=rfl
def nY(s:ag):jB (ax s)=X s:=rfl
def Jf(t:dw):sU (bZ t)=X t:=rfl
theorem aN(s:St)(n m:Nat)(o:ra):(s.put n o).get [] m=bif m==n then o else s.get [] m:=by
 grind [St.get,St.put,dH,aC.get_set]
theorem eA(s:St)(m:Nat)(o:aI):(s.new o).get [] m=bif m==s.aL then X o else s.get [] m:=by
 grind [St.get,St.new,dH,aC.get_set]
def kr(s:St)(n:Nat)(o:ra):(s.put n o).aL=s.aL:=rfl
def ac3(s:St)(o:aI):(s.new o).aL=s.aL+1:=rfl
abbrev dd:=List (ag×aa)
def mO(n:Nat):dd->F0
 |[]=>[]
 |(k,v)::l=>⟨.str k,v,n⟩::mO (n+1) l
def look(k:ag):dd->df
 |[]=>Z
 |(a,v)::l=>bif k==a then X v else look k l
def xQ(k:ag):dd->Nat
 |[]=>0
 |(a,_)::l=>bif k==a then 0 else xQ k l+1
variable{l:dd}{m:Nat}{s:St}{e t:TypeId}
section
variable{P:Program}{kt:TypeId}(heq:∀a b:oa,i9 P 8 kt (.str a) (.str b)=some (a==b))
include heq
theorem Pc:∀(l:dd)(k:ag)(n i:Nat),mP P kt (.str k) (mO n l) i=X ((look k l).map λv=>(i+xQ k l,⟨.str k,v,n+xQ k l⟩))
 |[],k,n,i=>rfl
 |(a,v)::l,k,n,i=>by
  simp only[mO,mP,heq,aH,look,xQ];cases h:k==a;simp only[cF];rw[Pc l k (n+1) (i+1)]
  grind
  grind
theorem axv{z:aa}(i:∀k:oa,jV P t (.str k)=X (kt,e))(d:dD P e=X z){c:Nat}(h:s.get [] m=X (.map (mO 0 l) c))(k:ag):
 mi P [] t (.map m) (.str k) I s=X ((look k l).getD z):=by
 simp only[mi,i,aH,d,zL,h,Pc heq l k 0 0];cases look k l<;>rfl
end
def WF:∀(l r:dd)(n:Nat),mO n (l++r)=mO n l++mO (n+J l) r
 |[],r,n=>rfl
 |(a,v)::l,r,n=>by simp only[uj,mO,WF l r (n+1),bT];congr 3;omega
def tx(k:ag)(v:aa):dd->dd
 |[]=>[(k,v)]
 |(a,u)::l=>bif k==a then(k,v)::l else(a,u)::tx k v l
def Yy{k:ag}{v:aa}:∀{l},look k l=Z->tx k v l=l++[(k,v)]
 |[],_=>rfl
 |(a,u)::l,h=>by
  simp only[look]at h;simp only[tx];cases h1:k==a;rw[h1]at h;simp only[cF,Yy h,uj];rw[h1]at h;cases h
def WG{k:ag}{u v:aa}:∀{l:dd}{n:Nat},look k l=X u->(mO n l).set (xQ k l) ⟨.str k,v,n+xQ k l⟩=mO n (tx k v l)
 |[],_,h=>by cases h
 |(a,w)::l,n,h=>by
  simp only[look]at h;simp only[tx,xQ,mO];cases h1:k==a;rw[h1]at h;simp only[cF,List.set_cons_succ,mO];rw[<-WG (l:=l) (n:=n+1) h,show n+(xQ k l+1)=n+1+xQ k l from w_];simp[mO]
theorem aGs{P:Program}{kt:TypeId}(heq:∀a b:oa,i9 P 8 kt (.str a) (.str b)=X (a==b))(p:∀k:oa,jV P t (.str k)=X (kt,e))(j:s.get [] m=X (.map (mO 0 l) (J l)))(k:ag)(v:aa):
 mF P [] t (.map m) (.str k) v s=X (s.put m (X (.map (mO 0 (tx k v l)) (tx k v l).length))):=by
 have d:∀{l:dd}{u:aa},look k l=X u->(tx k v l).length=J l:=by
  intro l
  induction l with
  |nil=>intro u h;cases h
  |cons x l q=>
   grind [look,tx]
 simp only[mF,p,aH,j,Pc heq l k 0 0];rcases h:look k l with _|u
 simp only[jW,Option.map_none,Yy h,WF,dP];rfl;have i:pd (.str k) (.str k)=O:=by simp[pd,se]
 simp only[Option.map_some,i,cT,d h]
 have:=WG (v:=v) (n:=0) h
 grind
def zG(b:UInt8):Bool:=R3 b.toNat
def Gd(b:UInt8):Bool:=Jy b.toNat
def Hj(s:ag):Bool:=s.all λb=>zG b||Gd b||aB b.toNat 95
def eD(s:ag):Bool:=match s with|[]=>I|b::r=>zG b&&Hj r&&Nat.ble (b::r).length 24
def jg:Sp
 |[.str s]=>bif bC (J s) small then X (.bool (eD s))else Z
 |_=>Z
def xE{s:ag}(h:J s<small):jg [.str s]=X (.bool (eD s)):=by
 simp only[jg,qu,h,dT,cT]
def Hq(i:Nat)(b:UInt8):Bool:=zG b||(!(i==0)&&(Gd b||(b.toNat==95)))
def tF:Nat->ag->Bool
 |_,[]=>O
 |i,b::r=>Hq i b&&tF (i+1) r
def acQ:∀(s:ag)(i:Nat),tF (i+1) s=Hj s
 |[],_=>rfl
 |b::r,i=>by
  simp only[tF,Hj,List.all_cons];rw[acQ r (i+1)];simp[Hq,Hj,Bool.or_assoc,fa]
def akq(b:UInt8):aj ((zf b.toNat:Nat):Int) 3=zG b:=by
 rw[show(3:Int)=((3:Nat):Int)from rfl,zD];unfold zf zG;cases R3 b.toNat;simp only[cF];cases Jy b.toNat;simp only[cF];cases Hd b.toNat [32,9,10];simp only[cF];cases Hd b.toNat [59,44,46,58,40,41,123,125,91,93,61,60,62,47,45];simp only[cF];cases aB b.toNat 35<;>cases aB b.toNat 95<;>cases aB b.toNat 34<;>rfl;rfl;rfl;rfl;rfl
def We:(List.range 256).all (λn=>(aB (zf n) 4==Jy n)&&(aB (zf n) 5==aB n 95))=O:=by decide+kernel
def akr(b:UInt8):aj ((zf b.toNat:Nat):Int) 4=Gd b:=by
 rw[show(4:Int)=((4:Nat):Int)from rfl,zD,<-fa]
 have:=fK.1 We b.toNat (yB.2 b.toNat_lt);simp only[bh,bE]at this;exact this.1
def aks(b:UInt8):aj ((zf b.toNat:Nat):Int) 5=(b.toNat==95):=by
 rw[<-fa b.toNat,show(5:Int)=((5:Nat):Int)from rfl,zD,<-fa]
 have:=fK.1 We b.toNat (yB.2 b.toNat_lt);simp only[bh,bE]at this;exact this.2
variable{Q:ay}[Std Q]
attribute[go_sem]PQ apE
variable{K:gk}{str:ag}
def ax7(q:J str<small){g:Nat}{lc:Ag.Loc}(U:lc.gen 3=g)(T:lc.get 3 g=X (wS 256 0))(N:∀e,ac e 0=.str str->tF 0 str=O->K (.exit 0) ⟨e,39,lc⟩ s)(S:∀e,ac e 2=.bool I->tF 0 str=I->K .ret ⟨e,39,lc⟩ s):
 ∀(rest d:ag)(e:aw),str=d++rest->tF 0 str=tF (J d) rest->ac e 0=.str str->ac e 3=.uV 3 g 0->ac e 8=ak (J str)->ac e 9=ak (J d)->W Q 104 (.loop PR) ⟨e,39,lc⟩ s K:=by
 have R:=aae;intro rest
 induction rest with
 |nil=>
  intro d e p E x G w F;have C:=cz p;refine aF ?_;simp only[go_sem,seval,PR,w,F,C,bJ];exact N _ (by simp only[sN,seval,x]) (by rw[E];rfl)
 |cons b rest M=>
  intro d e p E x G w F;have B:J d<J str:=by rw[p];simp
  have i:str.drop (J d)=b::rest:=by rw[p];simp
  have H:=b.toNat_lt;have h:=Wc 256 0 b.toNat H;rw[dP]at h;have y:=ue (n:=J d) w_;have D:aj (J d:Int) 0=(J d==0):=zD _ 0;have j:Hq (J d) b=(zG b||(!(J d==0)&&(Gd b||(b.toNat==95)))):=rfl;have A:tF 0 str=(Hq (J d) b&&tF (d++[b]).length rest):=by rw[E,bK];rfl
  refine aF ?_;cases hL:zG b<;>cases hz:J d==0<;>cases hD:Gd b<;>cases hU:b.toNat==95<;>simp only[hL,hz,hD,hU,AA,AB,qE,ui,Bool.and_true,Bool.and_false]at j<;>rw[j]at A<;>simp only[go_sem,seval,PR,x,G,w,F,B,YK,Ya,aev,i,H,U,T,h,akq,akr,aks,hL,hz,hD,hU,D,y,Nat.mul_one]<;>
   first|exact S _ (by simp only[sN,seval]) A|exact M (d++[b]) _ (cP p) A (by simp only[sN,seval,x]) (by simp only[sN,seval,G]) (by simp only[sN,seval,w]) (by simp only[jW,sN,seval])
def ax8(p:Q.spec 171=X MS)(B:No Q 104)(d:J str<small)(s:St):ai Q 104 [.str str] s (.bool (eD str)) s:=by
 have h:MS []=X (.agg (wS 256 0)):=rfl;have q:=Wd 256 0;have x:dD ae 263=X (.agg (eZ [.int .u8 0] 256)):=k_
 have j:(eZ [aa.int .u8 0] 256).length=256:=k_
 have A:List.drop 256 (eZ [aa.int .u8 0] 256)=[]:=EZ (by rw[j];omega);have y:eD str=(tF 0 str&&(!(str== [])&&bV (J str:Int) 24)):=by
  rcases str with _|⟨b,r⟩
  rfl;have w:bV ((b::r).length:Int) 24=decide ((b::r).length<=24):=PG _ 24;simp only[tF,acQ r 0,Hq,eD,acW,w];simp
 refine ai.ofNZ ast (aM ?_);rw[y];simp only[go_sem,seval,p,h,x,j,A,q,afB,Nat.le_refl];refine ax7 d (g:=1) ?_ ?_ (λe D i=>?_) (λe C i=>?_) str [] _ rfl rfl ?_ ?_ ?_ ?_;rfl;rfl;cases hb:str== []<;>simp only[go_sem,seval,D,i,hb,vk];simp only[go_sem,seval,C,i]
 all_goals first|(simp only[sN,seval];done)|(simp only[sN,seval];rfl)|rfl
def T2:de:=(171,MS)::T1
def UA:eh T2:=.cons aEl Uz
def Hk:da ae 104 jg:=by
 refine mD UA λh v d=>?_;unfold jg at d;split at d
 let⟨h1,d⟩:=bf d
 cases d;exact⟨rfl,_,s0,ax8 rfl R_ (im h1) s0,rfl,1,rfl⟩;cases d
def M8(last:ag)(t:dw):Bool:= !eD t.1||Ag.leBytes t.1 last||(t.2== [])||decide (200<J t.2)
abbrev wf:=List dw
def t8:ag->wf->Bool
 |_,[]=>O
 |last,t::r=>bif M8 last t then I else t8 t.1 r
def jl(l:wf):Bool:=t8 [] l&&decide (J l<=60)
attribute[go_sem]PS apF
variable{l:wf}
def aFo(i:Q.spec 104=X jg)(G:aq 2 bZ v l)(T:∀t∈l,J t.1<small)(j:J l<small)(N:∀e lc,ac e 0=v->t8 [] l=O->K (.exit 0) ⟨e,39,lc⟩ s)(S:∀e lc,ac e 2=.bool I->t8 [] l=I->K .ret ⟨e,39,lc⟩ s):
 ∀(rest d:wf)(e:aw)(lc:Ag.Loc)(last:ag),l=d++rest->t8 [] l=t8 last rest->ac e 0=v->ac e 6=v->ac e 7=ak (J l)->ac e 8=ak (J d)->ac e 3=.str last->W Q 105 (.loop PT) ⟨e,39,lc⟩ s K:=by
 have R:=aae;have U:=G.gt;intro rest
 induction rest with
 |nil=>
  intro d e lc last p C F E q D H;have y:=cz p;refine aF ?_;simp only[go_sem,seval,PT,q,D,y,bJ];exact N _ _ (by simp only[sN,seval,F]) (by rw[C];rfl)
 |cons t rest M=>
  intro d e lc last p C F E q D H
  let⟨hlt,hat⟩:=cH p
  have B:=λlc k=>G.at jj.2.2.1 hat lc k;have h:=xE (T t (co hat));have w:=ue (n:=J d) w_;have A:aQ 200 (J t.2:Nat)=decide (200<J t.2):=J3 200 _;have x:t8 [] l=(!(!eD t.1||Ag.leBytes t.1 last||(t.2== [])||decide (200<J t.2))&&t8 t.1 rest):=by
   rw[C,t8,M8];cases (!eD t.1||Ag.leBytes t.1 last||(t.2== [])||decide (200<J t.2))<;>rfl
  refine aF ?_;cases hb1:eD t.1<;>cases hb2:Ag.leBytes t.1 last<;>cases hb3:t.2== []<;>cases hb4:decide (200<J t.2)<;>rw[hb1]at h<;>simp only[hb1,hb2,hb3,hb4,AA,AB,qE,ui,jf,lO]at x<;>simp only[go_sem,seval,PT,H,E,q,D,hlt,B,bZ,i,h,hb2,hb3,A,hb4,vk,w]<;>
   first|exact S _ _ (by simp only[sN,seval]) x|exact M (d++[t]) _ _ t.1 (by rw[p];simp) x (by simp only[sN,seval,F]) (by simp only[sN,seval,E]) (by simp only[sN,seval,q]) (by simp only[jW,sN,seval]) (by simp only[sN,seval])
def aFq(p:Q.spec 104=X jg)(x:No Q 105)(q:aq 2 bZ v l)(y:∀t∈l,J t.1<small)(d:J l<small)(s:St):ai Q 105 [v] s (.bool (jl l)) s:=by
 have h:=q.lenS jj;have j:=q.gt;have w:bV (J l:Int) 60=decide (J l<=60):=PG _ 60;refine ai.ofNZ asu (aM ?_);simp only[go_sem,seval,j,h,jl];refine aFo p q y d (λe lc B i=>?_) (λe lc A i=>?_) l [] _ _ [] rfl rfl ?_ ?_ ?_ ?_ ?_;simp only[go_sem,seval,B,i,j,h,w];simp only[go_sem,seval,A,i]
 all_goals first|(simp only[sN,seval];done)|(simp only[sN,seval];rfl)|rfl
def B8:wf->Bool
 |[]=>O
 |t::l=>bC (J t.1) small&&B8 l
def TC:∀{l:wf},B8 l=O->∀t∈l,J t.1<small
 |[],_,_,h=>by cases h
 |a::l,h,t,d=>by
  simp only[B8,bh]at h;rcases dG.1 d with rfl|d
  exact im h.1;exact TC h.2 t d
def TD:∀{l:wf},(∀t∈l,J t.1<small)->B8 l=O
 |[],_=>rfl
 |a::l,h=>by
  simp only[B8,bh];exact⟨bH (h a (by simp)),TD λt d=>h t (by simp[d])⟩
def Ao:Sp
 |[v]=>(fH 2 sU v).bind λl=>bif bC (J l) small&&B8 l then X (.bool (jl l))else Z
 |_=>Z
def afE(h:aq 2 bZ v l)(h1:J l<small)(d:∀t∈l,J t.1<small):Ao [v]=X (.bool (jl l)):=by
 simp only[go_sem,Nat.reduceMod,Nat.reduceShiftRight,Ao,oo Jf h,h1,TD d]
def T3:de:=(104,jg)::T2
def UC:eh T3:=.cons Hk UA
def afF:da ae 105 Ao:=by
 refine mD UC λh u d=>?_;unfold Ao at d;split at d;rename_i v;simp only[an]at d
 let⟨l,h1,d⟩:=d
 let⟨h2,d⟩:=bf d
 cases d;simp only[bh]at h2
 let⟨ht,hw⟩:=qh H6 (lX (λ_ _=>Je) h1)
 exact⟨by simp only[dW,ht,cj],_,s0,aFq rfl R_ hw (TC h2.2) (im h2.1) s0,rfl,1,rfl⟩;cases d
def x9(k:Int):ag:=bif aj k 1 then [110,111,100,101]else bif aj k 2 then [119,97,121]else bif aj k 3 then [97,114,101,97]else bif aj k 4 then [114,111,117,116,101]else bif aj k 5 then [116,117,114,110]else []
def Ii:Sp
 |[.int .i64 k]=>X (.str (x9 k))
 |_=>Z
attribute[go_sem]YQ apD YS apG
section
variable{Q:ay}[Std Q]
def aG4(d:No Q 103){k:Int}(h:k<0\/6<=k)(s:St):ai Q 103 [.int .i64 k] s (.str []) s:=by
 refine ai.ofNZ ass (aM ?_);cases h1:aQ k 0<;>cases h2:bV 6 k
 have:=of_decide_eq_false h1
 have:=of_decide_eq_false h2;omega
 all_goals simp only[go_sem,seval,h1,h2,Vz,agm,ey,afA]
end
theorem rC{a b:Int}(h:a≠b):aj a b=I:=bN.2 h
def aG2:da ae 103 Ii:=by
 intro args u i G h w j p q;unfold Ii at i;split at i
 ·rename_i k
  cases i;have d:(k<0\/6<=k)\/k=0\/k=1\/k=2\/k=3\/k=4\/k=5:=w_
  rcases d with y|rfl|rfl|rfl|rfl|rfl|rfl
  have x:x9 k=[]:=by
   simp only[x9,rC (show k≠1 from w_),rC (show k≠2 from w_),rC (show k≠3 from w_),rC (show k≠4 from w_),rC (show k≠5 from w_),cF]
  rw[x];exact TR (Q:=QT []) (JZ .nil) (λ_=>Nat.zero_lt_succ 1) (args:=[.int .i64 k]) (v:=.str []) (s':=s0) rfl (aG4 R_ y s0) rfl ⟨1,rfl⟩ G h w j p q
  all_goals exact MV (n:=100) .nil k_ (args':=[.int .i64 _]) rfl rfl G h w j p q
 cases i
def xu(k:Int):Nat:=bif aj k 2 then 2 else bif aj k 3 then 3 else bif aj k 4 then 1 else bif aj k 5 then 3 else 0
def DH:Sp
 |[.int .i64 k]=>bif bV 0 k&&aQ k 6 then X (.int .i64 (xu k:Nat))else Z
 |_=>Z
def awA:da ae 106 DH:=by
 intro j u i G h w p q x;unfold DH at i;split at i;rename_i k
 let⟨hk,i⟩:=bf i
 cases i;simp only[bV,aQ,bh,dE]at hk;have d:k=0\/k=1\/k=2\/k=3\/k=4\/k=5:=w_
 rcases d with rfl|rfl|rfl|rfl|rfl|rfl<;>exact MV (n:=100) .nil k_ (args':=[.int .i64 _]) rfl rfl G h w p q x
 cases i
def zU(x y:Int):Bool:=bV 0 x&&aQ x 1048576&&bV 0 y&&aQ y 1048576
def Hu:Sp
 |[.agg [.int .i64 x,.int .i64 y]]=>X (.bool (zU x y))
 |_=>Z
def azo{Q:ay}[Std Q](d:No Q 109)(x y:Int)(s:St):ai Q 109 [.agg [.int .i64 x,.int .i64 y]] s (.bool (zU x y)) s:=by
 refine ai.ofNZ asx (aM ?_);cases h1:bV 0 x<;>cases h2:aQ x 1048576<;>cases h3:bV 0 y<;>simp only[go_sem,seval,h1,h2,h3,zU]
def azn:da ae 109 Hu:=by
 refine mD (T:=[]) .nil λh u d=>?_;unfold Hu at d;split at d;cases d;exact⟨rfl,_,s0,azo R_ _ _ s0,rfl,1,rfl⟩;cases d
def T4:de:=(103,Ii)::(106,DH)::(109,Hu)::(105,Ao)::T3
def UD:eh T4:=.cons aG2 (.cons awA (.cons azn (.cons afF UC)))
def zJ(P:Program)(t:TypeId)(off:Nat):ra->df
 |some (.cells cs)=>gK P t cs off
 |some (.fix (.cells cs))=>gK P t cs off
 |_=>Z
theorem xz(P:Program)(mk:aK)(t:TypeId)(n off:Nat)(lc:Ag.Loc)(s:St):lC P mk t (.ptr n off) lc s=zJ P t off (s.get mk n):=by
 simp only[lC];rcases s.get mk n with _|o
 rfl;cases o with
 |fix o=>cases o<;>rfl
 |_=>rfl
def R6(P:Program)(t:TypeId)(off:Nat)(cs:az):zJ P t off (X (.fix (.cells cs)))=gK P t cs off:=rfl
theorem qm(P:Program)(t:TypeId)(off:Nat)(cs:az):zJ P t off (X (.cells cs))=gK P t cs off:=rfl
noncomputable def EL(lc:Ag.Loc)(s:St)(m off:Nat)(v:aa):ra->Option (Ag.Loc×St)
 |some (.cells cs)=>(gL cs off v.cells).bind λd=>X (lc,s.put m (X (.cells d)))
 |_=>Z
def dl(P:Program)(mk:aK)(t:TypeId)(m off:Nat)(v:aa)(lc:Ag.Loc)(s:St):Ag.t0 P mk t (.ptr m off) v lc s=(cW P t).bind λn=>bif aB (J v.cells) n&&bC 0 n then EL lc s m off v (s.get mk m)else Z:=by
 simp only[Ag.t0];rcases s.get mk m with _|o
 rfl;cases o<;>rfl
def du(lc:Ag.Loc)(s:St)(m off:Nat)(v:aa)(cs:az):EL lc s m off v (X (.cells cs))=(gL cs off v.cells).bind λd=>X (lc,s.put m (X (.cells d))):=rfl
abbrev cf:=List ag
structure Obj where
 id:ag
 mT:Int
 x:Int
 y:Int
 refsV:aa
 tagsV:aa
 gT:cf
 mt:wf
def Obj.cells(o:Obj):az:=[.str o.id,.int .i64 o.mT,.int .i64 o.x,.int .i64 o.y,o.refsV,o.tagsV]
def Obj.val(o:Obj):aa:=.agg o.cells
structure Obj.Ok (o:Obj):Prop where
 gT:aq 1 ax o.refsV o.gT
 mt:aq 2 bZ o.tagsV o.mt
 id:o.id.length<small
 reflen:o.gT.length<small
 ref:∀r∈o.gT,r.length<small
 taglen:o.mt.length<small
 key:∀t∈o.mt,t.1.length<small
def vP(d:cf):dd:=d.map λk=>(k,.bool O)
def acv(k:ag):∀d,look k (vP d)=bif d.contains k then X (.bool O)else Z
 |[]=>rfl
 |a::d=>by
  have h:=acv k d;simp only[vP,cU,look,List.contains_cons]at h⊢;rw[h];cases k==a<;>simp
def axt(k:ag)(d:cf):(look k (vP d)).getD (.bool I)=.bool (d.contains k):=by
 rw[acv];cases d.contains k<;>rfl
def CG(k:ag)(d:cf):cf:=bif d.contains k then d else d++[k]
def Yz(k:ag):∀d,tx k (.bool O) (vP d)=vP (CG k d)
 |[]=>rfl
 |a::d=>by
  have i:=Yz k d;simp only[vP,cU,tx,CG,List.contains_cons]at i⊢;cases h:k==a;simp only[cF,Bool.false_or,i];cases d.contains k<;>simp;have:k=a:=by simpa using h
  subst this;simp
def Ui(mT:Int)(last:ag)(seen:cf)(r:ag):Bool:=((aj mT 2&&(r==last))||(aj mT 3&&seen.contains r))|| !eD r
structure pK (s:St) (o:Obj) (po pl ps m:Nat) (last:ag) (seen:cf):Prop where
 ho:s.get [] po=some (.cells o.cells)
 hl:s.get [] pl=some (.cells [.str last])
 hs:s.get [] ps=some (.cells [.map m])
 hm:s.get [] m=some (.map (mO 0 (vP seen)) (vP seen).length)
 d1:(pl==m)=false
 d2:(po==m)=false
 d3:(po==pl)=false
 d4:(ps==m)=false
 d5:(ps==pl)=false
 d6:(m==pl)=false
noncomputable def pK.aL(s:St)(d m:Nat)(seen:cf)(r:ag):St:=(s.put m (X (.map (mO 0 (vP (CG r seen))) (vP (CG r seen)).length))).put d (X (.cells [.str r]))
variable{seen:cf}{o:Obj}{last:ag}
def pK.after{h d ps:Nat}(c:pK s o h d ps m last seen)(r:ag):pK (pK.aL s d m seen r) o h d ps m r (CG r seen):=by
 refine⟨?_,?_,?_,?_,c.d1,c.d2,c.d3,c.d4,c.d5,c.d6⟩<;>simp only[pK.aL,aN,c.d1,c.d2,c.d3,c.d4,c.d5,c.d6,bS,cT,cF,c.ho,c.hs]
attribute[go_sem]YR
def aHb{Q:ay}[Std Q](i:Q.spec 104=X jg){q j ps:Nat}(c:pK s o q j ps m last seen){r:ag}(y:J r<small):
 ai Q 107 [.str r,.ptr q 0,.ptr j 0,.ptr ps 0] s (.bool (Ui o.mT last seen r)) (pK.aL s j m seen r):=by
 have p:=xE y;have d:=axv JC DW Ul c.hm r;rw[axt]at d;have h:=aGs JC DW c.hm r (.bool O);rw[Yz]at h;have w:=c.ho;have A:=c.hl;have x:=c.hs;have B:=c.d1;simp only[Obj.cells]at w;refine ai.ofNZ asv (aM ?_);cases hk2:aj o.mT 2<;>cases he:r==last<;>cases hk3:aj o.mT 3<;>cases hc:seen.contains r<;>rw[hc]at d<;>simp only[go_sem,seval,xz,qm,dl,du,aN,Ov,FP,rY,aeu,vK,afC,w,A,x,B,hk2,he,hk3,d,h,i,p,pK.aL,Ui,hc]
def J1(t e:TypeId):SC:=
 (.seq (.region [⟨X 9,.binOp .lss 3 (.tmp 8) (.tmp 7) 3,.aw⟩])
 (.seq (.cond (.tmp 9) .skip (.exit 0))
 (.seq (.block 1 (.seq (.region [⟨X 10,.move (.tmp 8),.aw⟩,⟨X 5,.assign (.tmp 10),.aw⟩])
 (.seq (.region [⟨X 11,.move (.tmp 1),.aw⟩,⟨X 12,.move (.tmp 0),.aw⟩,⟨X 13,.move (.tmp 5),.aw⟩,⟨X 14,.indexAddr t (.tmp 12) (.tmp 13),.aw⟩,⟨X 15,.load e (.tmp 14),.aw⟩,⟨X 16,.call ⟨.value (.tmp 11),#[.tmp 15],#[e]⟩,.aw⟩])
 (.cond (.tmp 16) (.seq (.region [⟨X 17,.move (.tmp 5),.aw⟩,⟨X 4,.assign (.tmp 17),.aw⟩]) .ret) .skip))))
 (.region [⟨X 18,.binOp .add 3 (.tmp 8) (.const (.int .i64 1)) 3,.aw⟩,⟨X 8,.move (.tmp 18),.aw⟩]))))
def Yn(t e:TypeId):SC:=
 (.seq (.region [⟨X 4,.assign (.const (.int .i64 0)),.aw⟩])
 (.seq (.seq (.region [⟨X 6,.move (.tmp 0),.aw⟩,⟨X 7,.call ⟨.builtin .len,#[.tmp 6],#[t]⟩,.aw⟩,⟨X 8,.move (.const (.int .i64 0)),.aw⟩])
 (.block 0 (.loop (J1 t e))))
 (.seq (.region [⟨X 4,.assign (.const (.int .i64 (-1))),.aw⟩]) .ret)))
def Ow(t c:TypeId)(f:FuncId):SC:=
 (.seq (.region [⟨X 4,.assign (.const (.bool I)),.aw⟩])
 (.seq (.region [⟨X 5,.move (.tmp 0),.aw⟩,⟨X 6,.move (.tmp 1),.aw⟩,⟨X 7,.call ⟨.value (.func f),#[.tmp 5,.tmp 6],#[t,c]⟩,.aw⟩,⟨X 8,.binOp .geq 3 (.tmp 7) (.const (.int .i64 0)) 3,.aw⟩,⟨X 4,.assign (.tmp 8),.aw⟩]) .ret))
structure sJ (f:FuncId) (t e:TypeId):Prop where
 ex:∃fn,ae.funcs[f]?=some fn/\fn.body.map dZ=some (Yn t e)/\fn.ntmps=19/\fn.results.toList=[.tmp 4]
 hr:hrow f=[]
 no:rD f=false
structure yG (f:FuncId) (t c:TypeId) (g:FuncId):Prop where
 ex:∃fn,ae.funcs[f]?=some fn/\fn.body.map dZ=some (Ow t c g)/\fn.ntmps=9/\fn.results.toList=[.tmp 4]
 hr:hrow f=[]
 no:rD f=false
def fX{α:Type}(p:α->Bool):List α->Nat->Int
 |[],_=> -1
 |x::l,i=>bif p x then(i:Int)else fX p l (i+1)
def JT{α:Type}(p:α->Bool):∀(l:List α)(i:Nat),bV 0 (fX p l i)=l.any p
 |[],_=>rfl
 |x::l,i=>by
  simp only[fX,List.any_cons];cases p x;exact JT p l (i+1);simp[bV]
abbrev j_:=Nat->St->Prop
variable{f':FuncId}{P:j_}{c:TypeId}
section
variable{Q:ay}[Std Q]{f:FuncId}{t e:TypeId}{α:Type}{enc:α->aa}{n b:Nat}{gg:Bool}{z:aa}{sv:aa}{l:List α}{g:FuncId}{cap:az}{s:St}
def arR(F:sJ f t e)(S:ep ae t n b gg z)(N:aq n enc sv l)(R:J l<small)(A:∀x∈l,gK ae e (enc x).cells 0=X (enc x)/\(enc x).gt=O)(C:Q.spec g=Z){D:j_}(hg:∀i x s,l[i]?=X x->P i s->∃b p,ai Q g (enc x::cap) s (.bool b) p/\(b=I->P (i+1) p)/\(b=O->D i p)){lc:Ag.Loc}(V:∀e s,P (J l) s->K (.exit 0) ⟨e,19,lc⟩ s)(hr:∀(i:Nat) e s,D i s->ac e 4=ak i->K .ret ⟨e,19,lc⟩ s):
 ∀(m i:Nat)(E:aw)(s:St),i+m=J l->P i s->ac E 0=sv->ac E 1=.func (.func g) [] cap->ac E 7=ak (J l)->ac E 8=ak i->W Q f (.loop (J1 t e)) ⟨E,19,lc⟩ s K:=by
 have Y:=aae;have a1:=F.hr;have a0:=N.gt;intro m
 induction m with
 |zero=>
  intro i E s T H M G w q;have j:i=J l:=T;refine aF ?_;simp only[go_sem,seval,J1,w,q,j,bJ];exact V _ _ (j▸H)
 |succ m U=>
  intro i E s T H M G w q;have h:i<J l:=w_
  obtain⟨x,d⟩:∃x,l[i]?=X x:=⟨_,dp h⟩;have B:=λlc k=>N.at S.2.2.1 d lc k
  let⟨hr1,hr2⟩:=A x (co d)
  have y:=ue (n:=i) w_
  let⟨b,p,hrun,hp,hd⟩:=hg i x s d H
  refine aF ?_;simp only[go_sem,seval,J1,M,G,w,q,h,B,hr1,hr2,C];refine aV.of hrun d_ ?_;cases b;simp only[go_sem,seval,q,y];exact U (i+1) _ _ w_ (hp rfl) (by simp only[sN,seval,M]) (by simp only[sN,seval,G]) (by simp only[sN,seval,w]) (by simp only[sN,seval]);simp only[go_sem,seval];exact hr i _ _ (hd rfl) (by simp only[sN,seval])
def Yg(F:sJ f t e)(S:ep ae t n b gg z)(p:aq n enc sv l)(j:J l<small)(q:∀x∈l,gK ae e (enc x).cells 0=X (enc x)/\(enc x).gt=O)(y:Q.spec g=Z){D:j_}(B:∀i x s,l[i]?=X x->P i s->∃b d,ai Q g (enc x::cap) s (.bool b) d/\(b=I->P (i+1) d)/\(b=O->D i d))(C:P 0 s):
 ∃v d,ai Q f [sv,.func (.func g) [] cap] s v d/\((v=ah (-1)/\P (J l) d)\/∃i:Nat,v=ak i/\D i d):=by
 have H:No Q f:=tI F.no;have w:=p.lenS S;have A:=p.gt;have E:=F.hr
 let⟨fn,k1,k2,k3,k4⟩:=F.ex
 refine ai.ofNR k1 k2 k3 k4 (aM ?_);simp only[go_sem,seval,Yn,w,A,E];refine arR F S p j q y B (λe s h=>?_) (λi e s h G=>?_) (J l) 0 _ s (dP _) C ?_ ?_ ?_ ?_;simp only[go_sem,seval];exact⟨_,rfl,.inl ⟨rfl,h⟩⟩;simp only[go_sem,seval,G];exact⟨_,rfl,.inr ⟨i,rfl,h⟩⟩
 all_goals first|(simp only[sN,seval];done)|(simp only[sN,seval];rfl)|rfl
def Yf(F:sJ f t e)(S:ep ae t n b gg z)(C:aq n enc sv l)(w:J l<small)(y:∀x∈l,gK ae e (enc x).cells 0=X (enc x)/\(enc x).gt=O)(B:Q.spec g=Z){p:α->Bool}(E:∀x∈l,ai Q g (enc x::cap) s (.bool (p x)) s):ai Q f [sv,.func (.func g) [] cap] s (ah (fX p l 0)) s:=by
 let⟨v,j,hr,h⟩:=Yg (Q:=Q) (cap:=cap) F S C w y B (P:=λi j=>j=s/\fX p l 0=fX p (l.drop i) i) (D:=λi j=>j=s/\fX p l 0=(i:Int)) (λi x j A h=>by
  obtain⟨rfl,d⟩:=h;have q:=(gn.1 A).1;have G:l.drop i=x::l.drop (i+1):=by rw[yi q,<-sI ((dp q).symm.trans A)]
  rw[G,fX]at d;refine⟨p x,_,E x (co A),λe=>⟨rfl,?_⟩,λe=>⟨rfl,?_⟩⟩<;>rw[d,e]<;>rfl) (s:=s) R_
 rcases h with⟨rfl,rfl,d⟩|⟨i,rfl,rfl,d⟩
 rw[List.drop_length,fX]at d;rw[d];exact hr;rw[d];exact hr
abbrev F_:=St->Prop
def XI(C:yG f' t c f)(F:sJ f t e)(S:ep ae t n b gg z)(A:aq n enc sv l)(j:J l<small)(p:∀x∈l,gK ae e (enc x).cells 0=X (enc x)/\(enc x).gt=O)(q:Q.spec g=Z){D:F_}(B:∀i x s,l[i]?=X x->P i s->∃b d,ai Q g (enc x::cap) s (.bool b) d/\(b=I->P (i+1) d)/\(b=O->D d))(E:P 0 s):
 ∃v d,ai Q f' [sv,.func (.func g) [] cap] s v d/\((v=.bool I/\P (J l) d)\/(v=.bool O/\D d)):=by
 have G:No Q f:=tI F.no;have H:No Q f':=tI C.no;have w:=A.gt
 let⟨v,d,hr,h⟩:=Yg (Q:=Q) F S A j p q (D:=λ_=>D) B E
 let⟨fn,k1,k2,k3,k4⟩:=C.ex
 refine ai.ofNR k1 k2 k3 k4 (aM ?_);simp only[go_sem,seval,Ow,w];refine aV.of hr d_ ?_;rcases h with⟨rfl,h⟩|⟨i,rfl,h⟩
 have y:bV 0 (-1)=I:=rfl;simp only[go_sem,seval,y];exact⟨_,rfl,.inl ⟨rfl,h⟩⟩;have y:bV 0 (i:Int)=O:=dQ w_;simp only[go_sem,seval,y];exact⟨_,rfl,.inr ⟨rfl,h⟩⟩
def F5(C:yG f' t c f)(F:sJ f t e)(S:ep ae t n b gg z)(q:aq n enc sv l)(d:J l<small)(h:∀x∈l,gK ae e (enc x).cells 0=X (enc x)/\(enc x).gt=O)(i:Q.spec g=Z){p:α->Bool}(w:∀x∈l,ai Q g (enc x::cap) s (.bool (p x)) s):ai Q f' [sv,.func (.func g) [] cap] s (.bool (l.any p)) s:=by
 have y:No Q f:=tI F.no;have A:No Q f':=tI C.no;have j:=q.gt
 let⟨fn,k1,k2,k3,k4⟩:=C.ex
 refine ai.ofN k1 k2 k3 k4 (aM ?_);simp only[go_sem,seval,Ow,j];refine aV.of (Yf F S q d h i w) d_ ?_;simp only[go_sem,seval,VC,JT]
end
def ED(h:n<=1000000):n<small:=Nat.lt_of_le_of_lt h d_
def Yl:sJ 172 25 9:=⟨⟨_,func172,k_,k_,k_⟩,k_,rfl⟩
def Ym:sJ 219 22 53:=⟨⟨_,func219,k_,k_,k_⟩,k_,rfl⟩
def arQ:sJ 294 154 50:=⟨⟨_,func294,k_,k_,k_⟩,k_,rfl⟩
def arP:sJ 228 27 121:=⟨⟨_,func228,k_,k_,k_⟩,k_,rfl⟩
def arN:sJ 225 256 24:=⟨⟨_,func225,k_,k_,k_⟩,k_,rfl⟩
def arO:sJ 85 30 57:=⟨⟨_,func85,k_,k_,k_⟩,k_,rfl⟩
def VW:yG 108 25 196 172:=⟨⟨_,func108,k_,k_,k_⟩,k_,rfl⟩
def ajG:yG 159 22 115 219:=⟨⟨_,func159,k_,k_,k_⟩,k_,rfl⟩
def ajH:yG 253 154 199 294:=⟨⟨_,func253,k_,k_,k_⟩,k_,rfl⟩
def ajF:yG 173 27 268 228:=⟨⟨_,func173,k_,k_,k_⟩,k_,rfl⟩
def ajD:yG 165 256 93 225:=⟨⟨_,func165,k_,k_,k_⟩,k_,rfl⟩
def ajE:yG 45 30 100 85:=⟨⟨_,func45,k_,k_,k_⟩,k_,rfl⟩
def qW(mT:Int):ag->cf->cf->Bool
 |_,_,[]=>I
 |last,seen,r::rs=>Ui mT last seen r||qW mT r (CG r seen) rs
def lz(o:Obj):Bool:=(x9 o.mT== [])|| !eD o.id|| !jl o.mt||decide (J o.gT<xu o.mT)||decide (2000<J o.gT)
def Il(o:Obj):Bool:=aj o.x 0&&aj o.y 0
def dC(o:Obj):Bool:=bif lz o then I else bif qW o.mT [] [] o.gT then I else bif aj o.mT 1 then(J o.gT==0)&&zU o.x o.y else bif aj o.mT 5 then(J o.gT==3)&&Il o else Il o
def NY(P:Program)(t:TypeId)(a b:az):cN P .eql t (.agg a) (.agg b)=(wV P t (.agg a) (.agg b)).bind λb=>X (.bool b):=rfl
def ahA(P:Program)(t:TypeId)(a b:az):cN P .neq t (.agg a) (.agg b)=(wV P t (.agg a) (.agg b)).bind λb=>X (.bool !b):=rfl
def Mg(a b c d:Int):cN ae .eql 50 (.agg [.int .i64 a,.int .i64 b]) (.agg [.int .i64 c,.int .i64 d])=X (.bool (bif aj a c then bif aj b d then O else I else I)):=by
 have h:wV ae 50 (.agg [.int .i64 a,.int .i64 b]) (.agg [.int .i64 c,.int .i64 d])=(X (aj a c)).bind λr=>bif r then(X (aj b d)).bind λr=>bif r then X O else X I else X I:=k_
 rw[NY,h];cases aj a c<;>cases aj b d<;>rfl
def aBe(a b:Int):(bif aj a 0 then bif aj b 0 then O else I else I)=(aj a 0&&aj b 0):=by
 cases aj a 0<;>cases aj b 0<;>rfl
def aG3{k:Int}(h:(x9 k== [])=I):(bV 0 k&&aQ k 6)=O:=by
 by_cases h1:0<=k/\k<6;simp[bV,aQ,h1.1,h1.2];have d:x9 k=[]:=by
  simp only[x9,rC (show k≠1 from w_),rC (show k≠2 from w_),rC (show k≠3 from w_),rC (show k≠4 from w_),rC (show k≠5 from w_),cF]
 rw[d]at h;cases h
def XB(s:St)(mk:aK)(n:Nat):s.top.get mk n=s.get mk n:=rfl
def awz{k:Int}(h:(bV 0 k&&aQ k 6)=O):DH [.int .i64 k]=X (.int .i64 (xu k:Nat)):=by
 simp only[DH,h,cT]
attribute[go_sem]k57 aq9
set_option maxHeartbeats 1000000 in
def ayZ{Q:ay}[Std Q](F:Q.spec 103=X Ii)(E:Q.spec 104=X jg)(Y:Q.spec 105=X Ao)(V:Q.spec 106=X DH)(U:Q.spec 109=X Hu)(a4:No Q 57)(p:o.Ok):∃v s',ai Q 57 [o.val] s0 v s'/\(v=.bool (dC o)/\s'.ci=0):=by
 have S:=xE p.id;have R:=afE p.mt p.taglen p.key;have N:Ii [.int .i64 o.mT]=X (.str (x9 o.mT)):=rfl;have q:=p.gT.lenS bL;have rc:(o.refsV.gt=O/\o.tagsV.gt=O)/\o.refsV.cells=[o.refsV]/\o.tagsV.cells=[o.tagsV]:=⟨⟨p.gT.gt,p.mt.gt⟩,p.gT.scal,p.mt.scal⟩;have a3:aQ 2000 (J o.gT:Nat)=decide (2000<J o.gT):=J3 2000 _;have a1:s0.aL=0:=rfl;obtain⟨B,e1,g1,m1,n1,c1⟩:∃B,s0.new (.cells o.cells)=B/\B.get [] 0=X (.cells o.cells)/\B.gE<=B.aL/\B.aL=1/\B.ci=0:=⟨_,rfl,by rw[eA];rfl,Nat.zero_le _,rfl,rfl⟩;obtain⟨M,e2,C,c2⟩:∃M,((((B.new (.map [] 0)).new (.cells [.nilm])).put 2 (X (.cells [.map 1]))).new (.cells [.str []])).put 3 (X (.cells [.str []]))=M/\pK M o 0 3 2 1 [] []/\M.ci=0:=by
  refine⟨_,rfl,⟨?_,?_,?_,?_,rfl,rfl,rfl,rfl,rfl,rfl⟩,c1⟩<;>simp only[eA,aN,ac3,kr,n1,g1,Nat.reduceBEq,Nat.reduceAdd,cT,cF]<;>rfl
 let⟨u,s3,hr,hu⟩:=XI (Q:=Q) VW Yl bL p.gT p.reflen (λx _=>⟨vK _ 0,rfl⟩) (nJ 107) (cap:=[.ptr 0 0,.ptr 3 0,.ptr 2 0]) (s:=M)
  (P:=λi s=>s.ci=0/\∃last seen,pK s o 0 3 2 1 last seen/\qW o.mT [] [] o.gT=qW o.mT last seen (o.gT.drop i)) (D:=λs=>s.ci=0/\(∃last seen,pK s o 0 3 2 1 last seen)/\qW o.mT [] [] o.gT=O) (λi x s hi h=>by
   let⟨H,last,seen,j,G⟩:=h
   have A:=(gn.1 hi).1;rw[yi A,<-sI (hi.symm.trans (dp A)),qW]at G;exact⟨_,_,aHb E j (p.ref x (co hi)),λe=>⟨H,_,_,j.after x,by rw[G,e];rfl⟩,λe=>⟨H,⟨_,_,j.after x⟩,by rw[G,e];rfl⟩⟩) ⟨c2,_,_,C,rfl⟩
 obtain⟨hv,w,last,seen,T⟩:u=.bool (qW o.mT [] [] o.gT)/\s3.ci=0/\∃last seen,pK s3 o 0 3 2 1 last seen:=by
  rcases hu with⟨rfl,H,last,seen,j,G⟩|⟨rfl,H,⟨last,seen,j⟩,G⟩
  exact⟨by rw[G,List.drop_length];rfl,H,_,_,j⟩;exact⟨by rw[G],H,_,_,j⟩
 subst hv;have g2:=C.ho;have g3:=T.ho;have e0:aj (J o.gT:Int) 0=(J o.gT==0):=zD _ 0;have e3:aj (J o.gT:Int) 3=(J o.gT==3):=zD _ 3;have a0:Hu [.agg [.int .i64 o.x,.int .i64 o.y]]=X (.bool (zU o.x o.y)):=rfl;have lt:=iL m1;simp only[Obj.cells]at e1 g1 g2 g3;refine ai.ofNRZ avo (aM ?_);simp only[go_sem,seval,Obj.val,Obj.cells,e1,a1];refine⟨m1,?_⟩;cases hb1:x9 o.mT== []with
 |true=>
  simp only[go_sem,seval,XB,xz,qm,rY,g1,F,N,hb1];exact⟨_,rfl,by simp[dC,lz,hb1],c1⟩
 |false=>
 have a2:=awz (aG3 hb1);have A:∀n:Nat,aQ (J o.gT:Nat) (n:Nat)=decide (J o.gT<n):=λn=>J3 _ n;rcases(by cases eD o.id<;>cases jl o.mt<;>cases decide (J o.gT<xu o.mT)<;>cases decide (2000<J o.gT)<;>decide:(eD o.id=I)\/(eD o.id=O/\jl o.mt=I)\/(eD o.id=O/\jl o.mt=O/\decide (J o.gT<xu o.mT)=O)\/(eD o.id=O/\jl o.mt=O/\decide (J o.gT<xu o.mT)=I/\decide (2000<J o.gT)=O)\/(eD o.id=O/\jl o.mt=O/\decide (J o.gT<xu o.mT)=I/\decide (2000<J o.gT)=I))with h|h|h|h|h
 all_goals
  simp only[h]at S R;simp only[go_sem,seval,XB,xz,qm,WW,FP,FQ,WY,rY,vK,HR,aew,g1,rc,F,E,Y,V,N,S,R,a2,q,A,a3,hb1,h]
 iterate 4 exact⟨_,rfl,by simp[dC,lz,hb1,h],c1⟩
 have d:lz o=I:=by simp only[lz,hb1,h];rfl
 simp only[go_sem,seval,n1,ac3,kr,e2,dl,du,eA,aN,xz,qm,FQ,HR,g2,rc,jq,aa.cells];refine aV.of hr d_ ?_;cases hw:qW o.mT [] [] o.gT with
 |true=>
  simp only[go_sem,seval];exact⟨_,rfl,by simp[dC,d,hw],w⟩
 |false=>
 cases hk1:aj o.mT 1;cases hk5:aj o.mT 5<;>cases hz3:J o.gT==3<;>simp only[go_sem,seval,xz,qm,FP,O8,FQ,rY,HR,Mj,VA,Nh,ey,g3,rc,q,e3,hk1,hk5,hz3,Mg,aBe]<;>exact⟨_,rfl,by simp[dC,d,hw,hk1,hk5,hz3,Il],w⟩;cases hz0:J o.gT==0<;>simp only[go_sem,seval,xz,qm,FP,O8,FQ,rY,HR,Mj,g3,rc,q,e0,U,a0,hk1,hz0]<;>exact⟨_,rfl,by simp[dC,d,hw,hk1,hz0],w⟩
def EC:cf->Bool
 |[]=>O
 |t::l=>bC (J t) small&&EC l
def afi:∀{l:cf},EC l=O->∀t∈l,J t<small
 |[],_,_,h=>by cases h
 |a::l,h,t,d=>by
  simp only[EC,bh]at h;rcases dG.1 d with rfl|d
  exact im h.1;exact afi h.2 t d
def afj:∀{l:cf},(∀t∈l,J t<small)->EC l=O
 |[],_=>rfl
 |a::l,h=>by
  simp only[EC,bh];exact⟨bH (h a (by simp)),afj λt d=>h t (by simp[d])⟩
def Lz(id:ag)(k x y:Int)(rv h:aa)(rs:cf)(d:wf):Option Obj:=
 bif br rv&&br h&&bC (J id) small&&bC (J rs) small&&EC rs&&bC (J d) small&&B8 d then X ⟨id,k,x,y,rv,h,rs,d⟩else Z
def uI:aa->Option Obj
 |.agg [.str id,.int .i64 k,.int .i64 x,.int .i64 y,rv,tv]=>(fH 1 jB rv).bind λh=>(fH 2 sU tv).bind λd=>Lz id k x y rv tv h d
 |_=>Z
structure Obj.rf (o:Obj):Prop extends o.Ok where
 pr:br o.refsV=true
 pt:br o.tagsV=true
def I7(h:uI v=X o):v=o.val/\o.rf:=by
 unfold uI at h;split at h;simp only[an]at h
 let⟨rs,h1,ts,h2,h⟩:=h
 unfold Lz at h
 let⟨h3,h⟩:=bf h
 simp only[bh]at h3
 let⟨⟨⟨⟨⟨⟨p1,p2⟩,p3⟩,p4⟩,p5⟩,p6⟩,p7⟩:=h3
 cases h;exact⟨rfl,⟨⟨lX (λv a=>pS) h1,lX (λv a=>Je) h2,im p3,im p4,afi p5,im p6,TC p7⟩,p1,p2⟩⟩;cases h
def Fv(h:o.rf):uI o.val=X o:=by
 show((fH 1 jB o.refsV).bind λi=>(fH 2 sU o.tagsV).bind λd=>Lz o.id o.mT o.x o.y o.refsV o.tagsV i d)=_;rw[oo nY h.gT,aH,oo Jf h.mt,aH];unfold Lz;have q:bC (J o.id) small=O:=bH h.id;have p:bC (J o.gT) small=O:=bH h.reflen;have j:bC (J o.mt) small=O:=bH h.taglen;rw[h.pr,h.pt,q,p,j,afj h.ref,TD h.key];rfl
def Obj.rf.pure(h:o.rf):br o.val=O:=by
 simp only[Obj.val,Obj.cells,br,pures,h.pr,h.pt,cj]
mutual
def TZ:∀{v:aa},br v=O->Ag.d8 v=O
 |.agg cs,h=>by simp only[Ag.d8];exact Aq (by simpa only[br]using h)
 |.tup cs,h=>by simp only[Ag.d8];exact Aq (by simpa only[br]using h)
 |.list _ xs r,h=>by
   simp only[br,bh]at h;simp only[Ag.d8];exact h.1
 |.bool _,_=>rfl
 |.int _ _,_=>rfl
 |.str _,_=>rfl
 |.nilp,_=>rfl
 |.ptr _ _,h=>by simp[br]at h
 |.uV _ _ _,h=>by simp[br]at h
 |.ro cs,h=>by simpa only[Ag.d8]using h
 |.uP,_=>rfl
 |.arr _ _ _ _ _,h=>by simp[br]at h
 |.nilm,_=>rfl
 |.map _,h=>by simp[br]at h
 |.nilf,_=>rfl
 |.func _ _ _,h=>by simpa only[Ag.d8]using h
 |.nili,_=>rfl
 |.iface _ _,h=>by simpa only[Ag.d8]using h
def Aq:∀{l:az},pures l=O->dW l=O
 |[],_=>rfl
 |v::l,h=>by
  simp only[pures,bh]at h;simp only[dW,TZ h.1,Aq h.2,cj]
end
def qw:Sp
 |[v]=>(uI v).bind λo=>X (.bool (dC o))
 |_=>Z
def LK(h:o.rf):qw [o.val]=X (.bool (dC o)):=by
 show(uI o.val).bind _=_;rw[Fv h];rfl
def LL:da ae 57 qw:=by
 refine mD UD λp u d=>?_;unfold qw at d;split at d;simp only[an,aR]at d;obtain⟨o,x,rfl⟩:=d;obtain⟨rfl,j⟩:=I7 x;obtain⟨v,q,w,rfl,h⟩:=ayZ (Q:=QT T4) rfl rfl rfl rfl rfl R_ j.toOk;have i:pures [o.val]=O:=by simp only[pures,j.pure,cj]
 rw[ky i];exact⟨Aq i,_,q,w,h,1,rfl⟩;cases d
abbrev ba:=List Obj
def lG:ag->ba->Bool
 |_,[]=>O
 |last,o::r=>bif !dC o||Ag.leBytes o.id last then I else lG o.id r
def bw(l:ba):Bool:=lG [] l&&decide (J l<=1000000)
variable{Q:ay}[Std Q]
attribute[go_sem]QX aqq
variable{l:ba}
def axC(B:Q.spec 57=X qw)(H:aq 6 Obj.val v l)(U:∀o∈l,o.rf)(i:J l<small)(R:∀e lc,ac e 1=.uV 1 1 0->lc.gen 1=1->lc.get 1 1=X [v]->lG [] l=O->K (.exit 0) ⟨e,29,lc⟩ s)(T:∀e lc,ac e 2=.bool I->lG [] l=I->K .ret ⟨e,29,lc⟩ s):
 ∀(rest d:ba)(e:aw)(lc:Ag.Loc)(last:ag),l=d++rest->lG [] l=lG last rest->ac e 1=.uV 1 1 0->lc.gen 1=1->lc.get 1 1=X [v]->ac e 7=v->ac e 8=ak (J l)->ac e 9=ak (J d)->ac e 3=.str last->W Q 36 (.loop QY) ⟨e,29,lc⟩ s K:=by
 have S:=aae;have V:=H.gt;intro rest
 induction rest with
 |nil=>
  intro d e lc last j C G D q F p E M;have y:=cz j;refine aF ?_;simp only[go_sem,seval,QY,p,E,y,bJ];exact R _ _ (by simp only[sN,seval,G]) D q (by rw[C];rfl)
 |cons o rest N=>
  intro d e lc last j C G D q F p E M
  let⟨hlt,hat⟩:=cH j
  have go:=U o (co hat);have r1:=go.gT.gt;have r2:=go.mt.gt;have r3:=go.gT.scal;have Y:=go.mt.scal;have A:=λlc k=>H.at dY.2.2.1 hat lc k;have h:=LK go;have w:=ue (n:=J d) w_;have x:lG [] l=(!(!dC o||Ag.leBytes o.id last)&&lG o.id rest):=by
   rw[C,lG];cases (!dC o||Ag.leBytes o.id last)<;>rfl
  simp only[Obj.val,Obj.cells]at h;refine aF ?_;cases hb1:dC o<;>cases hb2:Ag.leBytes o.id last<;>rw[hb1]at h<;>simp only[hb1,hb2,AA,AB,qE,ui,jf,lO]at x<;>simp only[go_sem,seval,QY,M,F,p,E,hlt,A,Obj.val,Obj.cells,B,h,hb2,w]<;>
   first|exact T _ _ (by simp only[sN,seval]) x|exact N (d++[o]) _ _ o.id (by rw[j];simp) x (by simp only[sN,seval,G]) (by simp only[sL,seval,D]) (by simp only[sL,seval,q]) (by simp only[sN,seval,F]) (by simp only[sN,seval,p]) (by simp only[jW,sN,seval]) (by simp only[sN,seval])
def axG(w:Q.spec 57=X qw)(x:No Q 36)(p:aq 6 Obj.val v l)(B:∀o∈l,o.rf)(d:J l<small)(s:St):ai Q 36 [.agg [v]] s (.bool (bw l)) s:=by
 have h:=p.lenS dY;have j:=p.gt;have A:=p.scal;have q:bV (J l:Int) 1000000=decide (J l<=1000000):=PG _ 1000000;refine ai.ofNZ auv (aM ?_);simp only[go_sem,seval,j,h,bw];refine axC w p B d (λe lc E C y i=>?_) (λe lc D i=>?_) l [] _ _ [] rfl rfl ?_ ?_ ?_ ?_ ?_ ?_ ?_;simp only[go_sem,seval,E,C,y,i,j,h,q];simp only[go_sem,seval,D,i]
 all_goals first|(simp only[sN,seval];done)|(simp only[sN,seval];rfl)|rfl
def lY:aa->Option ba
 |.agg [v]=>(fH 6 uI v).bind λl=>bif bC (J l) small then X l else Z
 |_=>Z
def acA:∀{xs:az}{l:ba},jY uI xs=X l->(∀o∈l,o.rf)
 |[],l,h=>by simp only[jY,aR]at h;subst h;intro o d;cases d
 |x::xs,l,h=>by
  simp only[jY,an,aR]at h;obtain⟨a,j,r,i,rfl⟩:=h;intro o d;rcases dG.1 d with rfl|d
  exact(I7 j).2;exact acA i o d
def acB:∀{l:ba},(∀o∈l,o.rf)->jY uI (l.map Obj.val)=X l
 |[],_=>rfl
 |o::l,h=>by
  have d:=acB (l:=l) λo i=>h o (List.mem_cons_of_mem _ i);simp only[cU,jY,Fv (h o List.mem_cons_self),aH,d]
variable{u:aa}
def qX(h:lY u=X l):∃v,u=.agg [v]/\aq 6 Obj.val v l/\(∀o∈l,o.rf)/\J l<small:=by
 unfold lY at h;split at h;rename_i v;simp only[an]at h
 let⟨l',h1,h⟩:=h
 let⟨h2,h⟩:=bf h
 cases h;refine⟨v,rfl,lX (λv a h=>(I7 h).1) h1,?_,im h2⟩;unfold fH at h1;split at h1;cases h1;intro o d;cases d
 let⟨_,h1⟩:=bf h1
 exact acA h1;cases h1;cases h
def sS(h:aq 6 Obj.val v l)(i:∀o∈l,o.rf)(d:J l<small):lY (.agg [v])=X l:=by
 have:fH 6 uI v=X l:=by
  rcases h with⟨rfl,rfl⟩|⟨r,rfl⟩
  rfl;simp only[ce,fH,acB i]
 have q:bC (J l) small=O:=bH d;simp only[fq,lY,this,q]
def SZ(i:∀o∈l,o.rf):pures (l.map Obj.val)=O:=by
 rw[pures_all];intro v d;obtain⟨o,h,rfl⟩:=List.mem_map.1 d;exact(i o h).pure
def pg(h:aq 6 Obj.val v l)(i:∀o∈l,o.rf):Ag.d8 (.agg [v])=O/\∃d,dh (.agg [v])=.agg [d]/\aq 6 Obj.val d l:=by
 rcases h with⟨rfl,rfl⟩|⟨r,rfl⟩
 exact⟨rfl,.uP,rfl,.inl R_⟩;refine⟨by simp only[Ag.d8,dW,SZ i,cj],.list 6 (l.map Obj.val) (match r with|.own _=>.no|r=>r),?_,.inr ⟨_,rfl⟩⟩;simp only[dh,di,ky (SZ i)];cases r<;>rfl
def gV:Sp
 |[v]=>(lY v).bind λl=>X (.bool (bw l))
 |_=>Z
def zP(h:aq 6 Obj.val v l)(i:∀o∈l,o.rf)(d:J l<small):gV [.agg [v]]=X (.bool (bw l)):=by
 simp only[gV,sS h i d,aH]
def T5:de:=(57,qw)::T4
def agK:eh T5:=.cons LL UD
def xC:da ae 36 gV:=by
 refine mD agK λj u d=>?_;unfold gV at d;split at d;rename_i v;simp only[an,aR]at d;obtain⟨l,h,rfl⟩:=d;obtain⟨v,rfl,h,i,p⟩:=qX h
 let⟨ht,v',hw,hl'⟩:=pg h i
 exact⟨by simp only[dW,ht,cj],_,s0,by rw[di,hw];exact axG rfl R_ hl' i p s0,rfl,1,rfl⟩;cases d
def ve(a:Int):aj a a=O:=bS a
def afK(s:St)(mk:aK)(n:Nat):s.top.get mk n=s.get mk n:=rfl
def alR:Sp
 |[a,b]=>bif pures [a,b]then(fH 1 jB a).bind λl=>(fH 1 jB b).bind λr=>bif bC (J l) small then X (.bool (l==r))else Z else Z
 |_=>Z
def alS:Sp
 |[a,b]=>bif pures [a,b]then(fH 2 sU a).bind λl=>(fH 2 sU b).bind λr=>bif bC (J l) small then X (.bool (l==r))else Z else Z
 |_=>Z
def V1:de:=[(138,alR),(213,alS)]
def kp(a b:oa):Bool:=decide (a<=b)
def Bp(x:oa):List oa->List oa
 |[]=>[x]
 |y::l=>bif Ag.leBytes x y then x::y::l else y::Bp x l
def iQ:List oa->List oa
 |[]=>[]
 |x::l=>Bp x (iQ l)
def Ag.leBytes_iff(x y:oa):Ag.leBytes x y=kp x y:=by
 have h:Ag.leBytes x y=(gQ x y||x==y):=rfl;rw[h,Go.Proofs.bytesLess_eq];apply Bool.eq_iff_iff.2;simp only[kp,Az,dE,bE];constructor;rintro(h|rfl);exact List.le_of_lt h;exact List.le_refl _;intro h;by_cases e:x=y;exact .inr e;exact .inl (Classical.byContradiction λd=>e (List.le_antisymm h (List.not_lt.1 d)))
def PK(x:oa):∀l,(Bp x l).Perm (x::l)
 |[]=>.refl _
 |y::l=>by
  simp only[Bp];cases Ag.leBytes x y with
  |true=>exact .refl _
  |false=>exact((PK x l).cons y).trans (.swap x y l)
theorem B9:∀l,(iQ l).Perm l
 |[]=>.refl _
 |x::l=>(PK x _).trans ((B9 l).cons x)
def Lq(a b c:oa)(h1:kp a b=O)(d:kp b c=O):kp a c=O:=by
 simp only[kp,dE]at*;exact List.le_trans h1 d
def Lp(a b:oa):(kp a b||kp b a)=O:=by
 simp only[kp,Az,dE];exact List.le_total a b
def Yp(x:oa):∀l,l.Pairwise (λa b=>kp a b=O)->(Bp x l).Pairwise (λa b=>kp a b=O)
 |[],_=>by simp[Bp]
 |y::l,h=>by
  simp only[Bp];cases e:Ag.leBytes x y;rw[Ag.leBytes_iff]at e;refine qJ.2 ⟨λz d=>?_,Yp x l (qJ.1 h).2⟩;rcases dG.1 ((PK x l).mem_iff.1 d)with rfl|d
  have:=Lp z y;rw[e,Bool.false_or]at this;exact this;exact(qJ.1 h).1 z d;rw[Ag.leBytes_iff]at e;refine qJ.2 ⟨λz d=>?_,h⟩;rcases dG.1 d with rfl|d
  exact e;exact Lq _ _ _ e ((qJ.1 h).1 z d)
theorem TG:∀l,(iQ l).Pairwise (λa b=>kp a b=O)
 |[]=>.nil
 |x::l=>Yp x _ (TG l)
def TF(l:List oa):l.mergeSort (λx y=>decide (x<=y))=iQ l:=by
 refine List.Perm.eq_of_pairwise (le:=λa b=>kp a b=O) (λa b _ _ h d=>?_) (Nu Lq Lp l) (TG l) ((Ix l _).trans (B9 l).symm);simp only[kp,dE]at h d;exact List.le_antisymm h d
def aD6{l r:cf}(h:l.Perm r):iQ l=iQ r:=by
 rw[<-TF,<-TF];refine List.Perm.eq_of_pairwise (le:=λa b=>kp a b=O) (λa b _ _ i d=>?_) (Nu Lq Lp l) (Nu Lq Lp r) (((Ix l _).trans h).trans (Ix r _).symm);simp only[kp,dE]at i d;exact List.le_antisymm i d
def R1(p k:ag):gQ p k= !Ag.leBytes k p:=by
 rw[Ag.leBytes_iff,Go.Proofs.bytesLess_eq];by_cases h:k<=p;have d:¬p<k:=List.not_lt.2 h;simp[kp,h,d];have d:p<k:=List.not_le.1 h;simp[kp,h,d]
def aiZ(P:Program)(t:TypeId)(a b:oa):cN P .gtr t (.str a) (.str b)=X (.bool (!Ag.leBytes a b)):=rfl
def awL(a b:ag):(!Ag.leBytes a b)=gQ b a:=(R1 b a).symm
attribute[go_sem]ZY Zd ZW Y7
def acU(a:Int)(s:St):ai Q 205 [.int .i64 a] s (.bool I) s:=by
 refine ai.ofNZ atK (aM ?_);simp only[go_sem,seval,ve]
def jF(a b:Int):Int:=bif aQ a b then-1 else bif aQ b a then 1 else 0
def oX:Sp
 |[.int .i64 a,.int .i64 b]=>X (.int .i64 (jF a b))
 |_=>Z
def akt(d:No Q 126)(a b:Int)(s:St):ai Q 126 [.int .i64 a,.int .i64 b] s (.int .i64 (jF a b)) s:=by
 refine ai.ofNZ asS (aM ?_);simp only[go_sem,seval];refine aV.of (acU a s) d_ ?_;simp only[go_sem,seval];refine aV.of (acU b s) d_ ?_;cases h2:aQ a b<;>cases h3:aQ b a<;>simp only[go_sem,seval,h2,h3,jF]
def OE:da ae 126 oX:=by
 refine mD (T:=[]) .nil λh x d=>?_;unfold oX at d;split at d;cases d;exact⟨rfl,_,s0,akt R_ _ _ s0,rfl,1,rfl⟩;cases d
def acV(a:ag)(s:St):ai Q 202 [.str a] s (.bool I) s:=by
 refine ai.ofNZ atI (aM ?_);simp only[go_sem,seval]
def iy(a b:ag):Int:=bif gQ a b then-1 else bif gQ b a then 1 else 0
def oY:Sp
 |[.str a,.str b]=>X (.int .i64 (iy a b))
 |_=>Z
def akw(d:No Q 121)(a b:ag)(s:St):ai Q 121 [.str a,.str b] s (.int .i64 (iy a b)) s:=by
 refine ai.ofNZ asI (aM ?_);simp only[go_sem,seval];refine aV.of (acV a s) d_ ?_;simp only[go_sem,seval];refine aV.of (acV b s) d_ ?_;cases h2:gQ a b<;>cases h3:gQ b a<;>simp only[go_sem,seval,aiZ,awL,h2,h3,iy]
def OG:da ae 121 oY:=by
 refine mD (T:=[]) .nil λh x d=>?_;unfold oY at d;split at d;cases d;exact⟨rfl,_,s0,akw R_ _ _ s0,rfl,1,rfl⟩;cases d
def bD(n:Int):aa:=.int .i64 n
def asInt:aa->Option Int
 |.int .i64 n=>X n
 |_=>Z
def ahP{n:Int}(h:asInt v=X n):v=bD n:=by
 unfold asInt at h;split at h;cases h;rfl;cases h
abbrev l_:=Int×Int
def aX(p:l_):aa:=.agg [.int .i64 p.1,.int .i64 p.2]
def ny:aa->Option (Int×Int)
 |.agg [.int .i64 a,.int .i64 b]=>X (a,b)
 |_=>Z
def qY{p:l_}(h:ny v=X p):v=aX p:=by
 unfold ny at h;split at h;cases h;rfl;cases h
def Fw(p:l_):ny (aX p)=X p:=rfl
def Mb(p:l_):br (aX p)=O:=rfl
abbrev e_:=List Int
def lH:e_->Int
 |[]=>0
 |x::l=>bif aj x 0 then lH l else x
attribute[go_sem]P3 api QK aq0 aal aqN
abbrev E_:=List (Int×Int)
variable{lc:Ag.Loc}{l:E_}
section
variable{Q:ay}[Std Q]
def aAo{l:e_}(D:aq 1 bD v l)(i:J l<small)(F:∀e,ac e 3=.int .i64 0->lH l=0->K (.exit 0) ⟨e,18,lc⟩ s)(H:∀e,ac e 2=.int .i64 (lH l)->K .ret ⟨e,18,lc⟩ s):
 ∀(rest d:e_)(e:aw),l=d++rest->lH l=lH rest->ac e 3=.int .i64 0->ac e 6=v->ac e 7=ak (J l)->ac e 8=ak (J d)->W Q 125 (.loop P4) ⟨e,18,lc⟩ s K:=by
 have G:=aae;have M:=D.gt;intro rest
 induction rest with
 |nil=>
  intro d e j h q C p B;have y:=cz j;refine aF ?_;simp only[go_sem,seval,P4,p,B,y,bJ];exact F _ (by simp only[sN,seval,q]) h
 |cons x rest E=>
  intro d e j h q C p B
  let⟨hlt,hat⟩:=cH j
  have A:=λlc k=>D.at ff.2.2.1 hat lc k;have w:=ue (n:=J d) w_;rw[lH]at h;refine aF ?_;cases hb:aj x 0<;>rw[hb]at h<;>simp only[go_sem,seval,P4,q,C,p,B,hlt,A,bD,hb,w];exact H _ (by simp only[sN,seval,h]);exact E (d++[x]) _ (cP j) h (by simp only[sN,seval,q]) (by simp only[sN,seval,C]) (by simp only[sN,seval,p]) (by simp only[jW,sN,seval])
def aAp(q:No Q 125){l:e_}(j:aq 1 bD v l)(d:J l<small)(s:St):ai Q 125 [v] s (.int .i64 (lH l)) s:=by
 have i:=j.lenS ff;have p:=j.gt;refine ai.ofNZ asR (aM ?_);simp only[go_sem,seval,p,i];refine aAo j d (λe w h=>?_) (λe x=>?_) l [] _ rfl rfl ?_ ?_ ?_ ?_;simp only[go_sem,seval,w,h];simp only[go_sem,seval,x]
 all_goals first|(simp only[sN,seval];done)|(simp only[sN,seval];rfl)|rfl
def vG:Sp
 |[a]=>bif pures [a]then(fH 1 asInt a).bind λl=>bif bC (J l) small then X (.int .i64 (lH l))else Z else Z
 |_=>Z
def adT:da ae 125 vG:=by
 refine mD (T:=[]) .nil λh x d=>?_;unfold vG at d;split at d
 let⟨hp,d⟩:=bf d
 simp only[an]at d
 let⟨l,h1,d⟩:=d
 let⟨hs,d⟩:=bf d
 cases d;rw[ky hp];exact⟨Aq hp,_,s0,aAp R_ (lX (λv a=>ahP) h1) (im hs) s0,rfl,1,rfl⟩;cases d
def wW:E_->Int
 |[]=>0
 |p::l=>bif aj (jF p.1 p.2) 0 then wW l else jF p.1 p.2
def anr(i:Q.spec 126=X oX)(D:aq 2 aX v l)(j:J l<small)(H:∀e lc,wW l=0->K (.exit 0) ⟨e,21,lc⟩ s)(N:∀e lc,ac e 2=.int .i64 (wW l)->K .ret ⟨e,21,lc⟩ s):
 ∀(rest d:E_)(e:aw)(lc:Ag.Loc),l=d++rest->wW l=wW rest->ac e 6=v->ac e 7=ak (J l)->ac e 8=ak (J d)->W Q 292 (.loop QL) ⟨e,21,lc⟩ s K:=by
 have M:=aae;have R:=D.gt;intro rest
 induction rest with
 |nil=>
  intro d e lc p h C q B;have y:=cz p;refine aF ?_;simp only[go_sem,seval,QL,q,B,y,bJ];exact H _ _ h
 |cons x rest G=>
  intro d e lc p h C q B
  let⟨hlt,hat⟩:=cH p
  have A:=λlc k=>D.at Ez.2.2.1 hat lc k;have w:=ue (n:=J d) w_;have S:oX [.int .i64 x.1,.int .i64 x.2]=X (.int .i64 (jF x.1 x.2)):=rfl;have F:dJ (.int .i64 0)=X 0:=rfl;have E:dJ (.int .i64 1)=X 1:=rfl;rw[wW]at h;refine aF ?_;cases hb:aj (jF x.1 x.2) 0<;>rw[hb]at h<;>simp only[go_sem,seval,QL,C,q,B,hlt,A,aX,X8,aes,afz,Uk,rY,F,E,i,S,hb,w];exact N _ _ (by simp only[sN,seval,h]);exact G (d++[x]) _ _ (cP p) h (by simp only[sN,seval,C]) (by simp only[sN,seval,q]) (by simp only[jW,sN,seval])
def ans(j:Q.spec 126=X oX)(p:aq 2 aX v l)(d:J l<small)(s:St):ai Q 292 [v] s (.int .i64 (wW l)) s:=by
 have i:=p.lenS Ez;have q:=p.gt;refine ai.ofNZ auo (aM ?_);simp only[go_sem,seval,q,i];refine anr j p d (λe lc h=>?_) (λe lc w=>?_) l [] _ _ rfl rfl ?_ ?_ ?_;simp only[go_sem,seval,h];simp only[go_sem,seval,w]
 all_goals first|(simp only[sN,seval];done)|(simp only[sN,seval];rfl)|rfl
def ic(a b:l_):Int:=wW [(a.1,b.1),(a.2,b.2)]
def aBd(d:Q.spec 126=X oX)(h:No Q 246)(a b:l_)(s:St):ai Q 246 [aX a,aX b] s (.int .i64 (ic a b)) s:=by
 have r:ai Q 292 [.list 2 [.agg [.int .i64 a.1,.int .i64 b.1],.agg [.int .i64 a.2,.int .i64 b.2]] .Al] s (.int .i64 (ic a b)) s:=ans d (l:=[(a.1,b.1),(a.2,b.2)]) (.inr ⟨_,rfl⟩) (show 2<small from d_) s;refine ai.ofNZ at7 (aM ?_);simp only[go_sem,seval,aX,sW,ey,eZ,chunk,evc,Ez,Vy,Uk,rY];refine aV.of r d_ ?_;simp only[go_sem,seval]
def zY:Sp
 |[a,b]=>(ny a).bind λp=>(ny b).bind λq=>X (.int .i64 (ic p q))
 |_=>Z
def ahh:de:=[(126,oX)]
def U2:eh ahh:=.cons OE .nil
def aBb:da ae 246 zY:=by
 refine mD U2 λh x d=>?_;unfold zY at d;split at d;simp only[an,aR]at d;obtain⟨p,j,q,i,rfl⟩:=d;rw[qY j,qY i];exact⟨rfl,_,s0,aBd rfl R_ p q s0,rfl,1,rfl⟩;cases d
end
def fU:cf->cf->Int
 |[],[]=>0
 |[],_::_=> -1
 |_::_,[]=>1
 |a::x,b::y=>bif aj (iy a b) 0 then fU x y else iy a b
attribute[go_sem]RB aps
def aEH(C:Q.spec 121=X oY){l r:cf}(T:aq 1 ax v l)(H:aq 1 ax u r)(E:J l<small)(hx:∀e,ac e 0=v->ac e 1=u->fU l r=(bif decide (J l<J r)then-1 else 0)->K (.exit 0) ⟨e,36,lc⟩ s)(Y:∀e,ac e 4=.int .i64 (fU l r)->K .ret ⟨e,36,lc⟩ s):
 ∀(n i:Nat)(e:aw),i+n=J l->fU l r=fU (l.drop i) (r.drop i)->i<=J r->ac e 0=v->ac e 1=u->ac e 9=v->ac e 10=ak (J l)->ac e 11=ak i->W Q 71 (.loop La) ⟨e,36,lc⟩ s K:=by
 have a0:=aae;have a1:=T.gt;have B:=H.gt;have x:=H.lenS bL;intro n
 induction n with
 |zero=>
  intro i e h1 p h3 S D F j q;have y:i=J l:=h1;refine aF ?_;simp only[go_sem,seval,La,j,q,y,bJ];refine hx _ (by simp only[sN,seval,S]) (by simp only[sN,seval,D]) ?_;rw[p,y,List.drop_length];rcases Nat.lt_or_ge (J l) (J r)with h|h
  rw[dQ h,yi h];rfl;rw[dN w_,EZ h];rfl
 |succ n ih=>
  intro i e h1 p h3 S D F j q;have d:i<J l:=w_
  obtain⟨a,V⟩:∃a,l[i]?=X a:=⟨_,dp d⟩;have R:l.drop i=a::l.drop (i+1):=by rw[yi d,<-sI ((dp d).symm.trans V)]
  have A:=λlc k=>T.at bL.2.2.1 V lc k;have G:=ue (n:=i) w_;rw[R]at p;refine aF ?_;rcases Nat.lt_or_ge i (J r)with h|h
  obtain⟨b,U⟩:∃b,r[i]?=X b:=⟨_,dp h⟩;have N:r.drop i=b::r.drop (i+1):=by rw[yi h,<-sI ((dp h).symm.trans U)]
  have M:=λlc k=>H.at bL.2.2.1 U lc k;have w:bV ((J r:Nat):Int) ((i:Nat):Int)=I:=dN w_;have hc:oY [.str a,.str b]=X (.int .i64 (iy a b)):=rfl;rw[N,fU]at p;cases hq:aj (iy a b) 0<;>rw[hq]at p<;>simp only[go_sem,seval,La,D,F,j,q,d,B,x,w,A,M,ax,C,hc,hq,G];exact Y _ (by simp only[sN,seval,p]);exact ih (i+1) _ w_ p h (by simp only[sN,seval,S]) (by simp only[sN,seval,D]) (by simp only[sN,seval,F]) (by simp only[sN,seval,j]) (by simp only[sN,seval]);have w:bV ((J r:Nat):Int) ((i:Nat):Int)=O:=dQ w_;rw[EZ h,fU]at p;simp only[go_sem,seval,La,D,F,j,q,d,B,x,w,A,ax];exact Y _ (by simp only[sN,seval,p])
def aEI(p:Q.spec 121=X oY)(A:No Q 71){l r:cf}(x:aq 1 ax v l)(q:aq 1 ax u r)(d:J l<small)(s:St):ai Q 71 [v,u] s (.int .i64 (fU l r)) s:=by
 have i:=x.lenS bL;have w:=q.lenS bL;have j:=x.gt;have y:=q.gt;refine ai.ofNZ avF (aM ?_);simp only[go_sem,seval,j,i];refine aEH p x q d (λe D C h=>?_) (λe B=>?_) (J l) 0 _ (dP _) rfl (Nat.zero_le _) ?_ ?_ ?_ ?_ ?_;cases hd:decide (J l<J r)<;>rw[hd]at h<;>simp only[go_sem,seval,D,C,j,y,i,w,hd,h];simp only[go_sem,seval,B]
 all_goals first|(simp only[sN,seval];done)|(simp only[sN,seval];rfl)|rfl
def EM:Sp
 |[a,b]=>bif pures [a,b]then(fH 1 jB a).bind λl=>(fH 1 jB b).bind λr=>bif bC (J l) small then X (.int .i64 (fU l r))else Z else Z
 |_=>Z
def ahi:de:=[(121,oY)]
def ahj:eh ahi:=.cons OG .nil
def aEE:da ae 71 EM:=by
 refine mD ahj λh x d=>?_;unfold EM at d;split at d
 let⟨hp,d⟩:=bf d
 simp only[an]at d
 let⟨l,h1,r,h2,d⟩:=d
 let⟨hs,d⟩:=bf d
 cases d;rw[ky hp];exact⟨Aq hp,_,s0,aEI rfl R_ (lX (λv a=>pS) h1) (lX (λv a=>pS) h2) (im hs) s0,rfl,1,rfl⟩;cases d
def cM:oa->oa->Int
 |[],[]=>0
 |[],_::_=> -1
 |_::_,[]=>1
 |a::x,b::y=>bif bC a.toNat b.toNat then-1 else bif bC b.toNat a.toNat then 1 else cM x y
def kD:Sp
 |[.str a,.str b]=>X (.int .i64 (cM a b))
 |_=>Z
def akD:∀(a b:oa),cM a b=Lib.compareBytes a b:=by
 intro a
 induction a with
 |nil=>intro b;cases b<;>rfl
 |cons u x d=>
  intro b;rcases b with _|⟨v,y⟩
  rfl;simp only[cM,Lib.compareBytes,UInt8.lt_iff_toNat_lt,qu,d];by_cases h1:u.toNat<v.toNat;simp[h1];by_cases h2:v.toNat<u.toNat<;>simp[h1,h2]
def akL:da ae 267 kD:=by
 intro i v d G h w y j x;unfold kD at d;split at d;rename_i a b;cases d;cases x with
 |cons p q=>
  cases q with
  |cons q r=>
   cases r;cases p;cases q;refine .inl ⟨.int .i64 (Lib.compareBytes a b),w,?_,G,j,.refl,?_⟩
   have:=run_callFunc_extern (P:=ae) (f:=267) (fn:=f267) (e:=Extern.BytealgCompare.compare) k_ k_ k_ k_ k_ #[.string ⟨⟨a⟩⟩,.string ⟨⟨b⟩⟩] w;rw[show(⟨[Value.string ⟨⟨a⟩⟩,.string ⟨⟨b⟩⟩]⟩:gy)= #[.string ⟨⟨a⟩⟩,.string ⟨⟨b⟩⟩]from rfl,this,Lib.run_compareString];rfl;rw[akD];exact .int _ _
 cases d
def tY{b:Nat}(h:n<=1000000)(d:b<=88):eE n b=O:=by
 unfold eE;apply bH;have:(n*2+1024)*b<=2001024*88:=Nat.mul_le_mul w_ d;omega
def ajw(a b c d e:Nat):(aa.arr a b c d e).cells=[.arr a b c d e]:=rfl
def aj7(a b c d e:Nat):(aa.arr a b c d e).gt=O:=rfl
theorem mQ:∀(a b:az),au (a++b)=au a++au b
 |[],b=>rfl
 |x::a,b=>by
  have d:=mQ a b;show x.cells++au (a++b)=(x.cells++au a)++au b;rw[d,List.append_assoc]
def Pg{sz:Nat}:∀{xs:az},(∀x∈xs,J x.cells=sz)->(au xs).length=J xs*sz
 |[],_=>by simp[au]
 |x::xs,h=>by
  have d:=Pg (xs:=xs) λy i=>h y (by simp[i]);show(x.cells++au xs).length=_;rw[bK,d,h x (by simp),bT,Nat.add_mul];omega
def V9(n:Nat):(aa.yld n).gt=O:=rfl
def rd:az->Option cf
 |[]=>X []
 |.str a::l=>(rd l).bind λr=>X (a::r)
 |_=>Z
def Fx:∀l:cf,rd (l.map ax)=X l
 |[]=>rfl
 |a::l=>by
  show(rd (l.map ax)).bind _=_;rw[Fx l];rfl
def ajC:(aa.uP).cells=[.uP]:=rfl
def rp:∀l:cf,au (l.map ax)=l.map ax
 |[]=>rfl
 |a::l=>by
  show(ax a).cells++au (l.map ax)=_;rw[rp l];rfl
abbrev m_:=ag×ag
def iJ(a b:m_):Int:=bif aj (cM a.1 b.1) 0 then cM a.2 b.2 else cM a.1 b.1
def Lv(a b:m_):Bool:=aQ (iJ a b) 0
abbrev S0:=List (ag×ag)
def Bq(x:m_):S0->S0
 |[]=>[x]
 |y::l=>bif Lv y x then y::Bq x l else x::y::l
def EF:S0->S0
 |[]=>[]
 |x::l=>Bq x (EF l)
def PL(x:m_):∀l,(Bq x l).Perm (x::l)
 |[]=>.refl _
 |y::l=>by
  simp only[Bq];cases Lv y x with
  |true=>exact((PL x l).cons y).trans (.swap x y l)
  |false=>exact .refl _
def H1:∀l,(EF l).Perm l
 |[]=>.refl _
 |x::l=>(PL x _).trans ((H1 l).cons x)
def Ca:az->Nw
 |[.uP]=>X Z
 |[.arr 1 m 0 len _]=>X (X (m,λcs=>rX (bif aB (J cs) len&&bC len 1000001 then(rd cs).bind λl=>X ((iQ l).map ax)else Z)))
 |_=>Z
end Go.Proofs.YtnhmcokmdhgpbaaGreat
namespace Go.Proofs
open Go.Shelf
def acR(P:Program)(f:FuncId):String:=match P.funcs[f]? with|some g=>g.name|none=> ""
def CO{P:Program}{f:FuncId}{B:Func}(h1:(acR P f== "runtime.NumGoroutine")=false)(h2:P.funcs[f]? =some {B with name:=acR P f }):Bears P f B:=⟨_,h1,h2⟩
def Tryz.sort48_ren:Go.Shelf.Ren:=⟨λ|6=>49|8=>89|9=>88|19=>149|20=>150|21=>140|22=>141|23=>142|24=>143|25=>144|26=>145|27=>146|28=>147|29=>148|36=>214|31=>215|32=>216|37=>217|38=>218|39=>202|41=>266|n=>n,λ|27=>25|29=>9|3=>3|32=>181|26=>25|0=>0|44=>244|46=>246|4=>4|36=>237|35=>236|41=>76|5=>5|9=>9|53=>306|57=>310|63=>350|64=>351|n=>n,λ|n=>n⟩
def Tryz.sort48:Go.Proofs.SlLaysM.n6 Tryz.prog Tryz.sort48_ren:=by
 constructor<;>first|kernel_rfl|(intro _;kernel_rfl)|(refine CO ?_ ?_<;>kernel_rfl)
end Go.Proofs
namespace Go.Proofs.YtnhmcokmdhgpbaaGreat
open Go.Ag
open Go.Sort (putRow putCells mapBlock onCells grow heap_grow_old Holds SWO)
structure Uy (w w':World):Prop where
 os:w'.os=w.os
 output:w'.output=w.output
 size:w.heap.size<=w'.heap.size
 block:∀k,k<w.heap.size->w'.heap[k]?=w.heap[k]?
 tape:w'.tape=w.tape
 drawn:w.drawn<=w'.drawn
variable{G:Gh}{w:World}{h:aC aI}
def U7{w':World}(wr:WR G h w)(j:Uy w w')(f:Nat->Nat->df)(F:∀b o v,f b o=X v->w.heap.size<=b/\v.scal=O/\∃x,w'.cell? ⟨b,o,Z⟩=X x/\VR G v x):
 ∃G':Gh,(∀b o v,f b o=X v->G'.ro b o=X v)/\G.le G'/\WR G' h w'/\ck G h w G' h w' 0 0:=by
 let G':Gh:= {at_:=G.at_,ro:=λb o=>if b<w.heap.size then G.ro b o else f b o,dim:=G.dim }
 have A:∀b o v,G.ro b o=X v->b<w.heap.size:=λb o v e=>by
  let⟨_,x,hx,_⟩:=wr.ro b o v e
  exact World.block_lt_of_cell? w ⟨b,o,Z⟩ hx
 have q:G.le G':=⟨λ_ _ e=>e,λb o v e=>by
  show(if b<w.heap.size then G.ro b o else f b o)=X v;rw[iP (A b o v e)];exact e,λ_ _ e=>e⟩
 have u:∀b o v,G'.ro b o=X v->(b<w.heap.size/\G.ro b o=X v)\/(¬b<w.heap.size/\f b o=X v):=λb o v e=>by
  have e:(if b<w.heap.size then G.ro b o else f b o)=X v:=e;by_cases g:b<w.heap.size;rw[iP g]at e;exact .inl ⟨g,e⟩;rw[iN g]at e;exact .inr ⟨g,e⟩
 refine⟨G',λb o v e=>?_,q,⟨?_,?_,?_,?_,?_,?_⟩,q,j.size,λb g _=>j.block b g,λb _ o=>o,λn a e z=>(by have e:G.at_ n=X a:=e;rw[e]at z;cases z),?_,⟨j.os,j.output,j.size,λa M=>World.frozen?_of_block (j.block _ M),j.tape,j.drawn⟩,λb _ o=>o⟩;show(if b<w.heap.size then G.ro b o else f b o)=X v
 have:=(F b o v e).1;rw[iN w_];exact e;intro n o e
 let⟨a,h1,h2,h3⟩:=wr.obj n o e
 exact⟨a,h1,h2,(h3.of_block (j.block _ (wr.below n a h1))).mono q⟩;exact wr.sep;intro b o v e;rcases u b o v e with⟨g,e⟩|⟨g,e⟩
 let⟨h1,x,h2,h3⟩:=wr.ro b o v e
 exact⟨h1,x,(World.cell?_of_block (j.block b g)).trans h2,h3.mono q⟩
 let⟨_,h1,x,h2,h3⟩:=F b o v e
 exact⟨h1,x,h2,h3.mono q⟩;intro n K a i v e H D;rcases u _ _ _ D with⟨_,D⟩|⟨g,_⟩
 exact wr.apart n K a i v e H D;exact absurd (wr.below n a H) g;intro b d e
 let⟨C,el,h1,h2⟩:=wr.dim b d e
 have g:b<w.heap.size:=by
  rcases ip b w.heap.size with g|g
  exact g;rw[Array.getElem?_eq_none g]at h1;cases h1
 exact⟨C,el,(j.block b g).trans h1,h2⟩;exact λn a e=>Nat.lt_of_lt_of_le (wr.below n a e) j.size;intro b o v g e z;rcases u b o v e with⟨_,e⟩|⟨B,_⟩
 rw[e]at z;cases z;exact absurd g B
section
variable{α:Type}[Inhabited α]
def aep(enc:α->Value)(off:Nat)(d:Array α)(C:gy):(putCells enc off d C).size=C.size:=by simp[putCells]
def aBp(enc:α->Value)(off:Nat)(d:Array α)(C:gy){i:Nat}(hi:i<d.size)(e:off+i<C.size):(putCells enc off d C)[off+i]?=X (enc d[i]!):=by
 simp[putCells,e,hi]
def aEj(enc:α->Value)(w:World)(g off n:Nat)(d:Array α)(os:Array Go.Obj){C:gy}{e:TypeId}(q:w.heap[g]?=X (.cells C e (0,0)))(k:Nat)(j:k<w.heap.size):
 (grow (putRow enc (Sort.ahead w n) g off d) os).heap[k]?=if k=g then X (.cells (putCells enc off d C) e (0,0))else w.heap[k]? :=by
 rw[heap_grow_old _ _ (by simpa using j)];by_cases h:k=g;subst h;simp[putRow,mapBlock,Sort.ahead,Array.getElem?_modify,q,onCells];have u:¬g=k:=λe=>h e.symm;simp[putRow,mapBlock,Sort.ahead,Array.getElem?_modify,h,u]
def Mv(wr:WR G h w){m:Nat}{a:Addr}{cs cs':az}(B:h.get m=X (.cells cs))(z:G.at_ m=X a)(enc:α->Value)(d:Array α)(n:Nat)(os:Array Go.Obj)(M:∀C e,w.heap[a.block]?=X (.cells C e (0,0))->a.off+d.size<=C.size)(N:∀(i:Nat) v,cs'[i]?=X v->i<d.size/\v.scal=O/\VR G v (enc d[i]!)):
 ∃u,WR u (h.set m (X (.cells cs'))) (grow (putRow enc (Sort.ahead w n) a.block a.off d) os)/\ck G h w u (h.set m (X (.cells cs'))) (grow (putRow enc (Sort.ahead w n) a.block a.off d) os) 0 0/\VR u (.tup []) (.tuple #[]):=by
 let⟨b,hb,_,C,e,hC,hdim,_⟩:=wr.obj m _ B
 rw[z]at hb;cases hb;have q:=wr.below m a z;have K:=M C e hC;have j:(cX w a.block (.cells (putCells enc a.off d C) e (0,0))).heap[a.block]?=X (.cells (putCells enc a.off d C) e (0,0)):=by rw[iC _ _ _ _ q,iP rfl]
 let⟨c1,c2⟩:=wr.changed (o':=.cells cs') (ob:=.cells (putCells enc a.off d C) e (0,0)) B z
  ⟨_,e,j,by rw[aep];exact hdim,λi v H=>by
    let⟨h1,h2,h3⟩:=N i v H
    exact⟨h2,_,aBp enc a.off d C h1 w_,h3⟩⟩
  (λi v F=>by
   have:=(wr.apart m _ a i v B z F).1;cases this)
  (λP g=>by
   rw[hdim]at g;injection g with g
   exact⟨_,e,rfl,by rw[aep];exact g⟩)
  rfl
 have A:Uy (cX w a.block (.cells (putCells enc a.off d C) e (0,0))) (grow (putRow enc (Sort.ahead w n) a.block a.off d) os):=by
  refine⟨rfl,rfl,?_,λk D=>?_,rfl,?_⟩;rw[Eh];simp[grow];rw[Eh]at D;rw[aEj enc w a.block a.off n d os hC k D,iC _ _ _ _ q];show w.drawn<=w.drawn+n;omega
 let⟨u,_,_,g3,g4⟩:=U7 c1 A (λ_ _=>Z) (by intro b o v e;cases e)
 exact⟨u,g3,(c2 0 0).trans g4 (aD _) (aD _),.tup .nil⟩
end
def Jd:∀{cs:az}{l:cf},rd cs=X l->cs=l.map ax
 |[],l,h=>by
   simp only[rd,aR]at h;subst h;rfl
 |v::cs,l,h=>by
  unfold rd at h;split at h;rename_i e;cases e;rename_i a r e;injection e with j g
  subst j;subst g;simp only[an,aR]at h;obtain⟨l,d,rfl⟩:=h;rw[Jd d];rfl;cases h
def uH(f:FuncId)(sp:V_):Prop:=
 ∀d (G:Gh) (h:aC aI) (w:World) (xs:er),WR G h w->bO G d xs->
  (sp d=X Z->kh ae f ⟨xs⟩ w λy q=>∃j,WR j h q/\ck G h w j h q 0 0/\VR j (.tup []) y)/\
  ∀n g cs e,sp d=X (X (n,g))->h.get n=X (.cells cs)->em h.get (g cs)=X (.agg e)->
   kh ae f ⟨xs⟩ w λy q=>∃j,WR j (h.set n (X (.cells e))) q/\ck G h w j (h.set n (X (.cells e))) q 0 0/\VR j (.tup []) y
def N7{sz m len lcap:Nat}{y:Value}(h:VR G (.arr sz m 0 len lcap) y):∃(a b:Addr)(cap:Nat),y=.slice (X a) len cap/\G.at_ m=X b/\a.spot=Z/\len<=cap/\(len=0\/(a.block=b.block/\a.off=b.off))/\(∃d,G.dim b.block=X d/\b.off+cap*sz<=d):=by
 cases h with
 |arr u q B A z e j g=>
  rename_i a b cap d;refine⟨a,b,cap,rfl,u,q,w_,?_,d,j,by simpa using g⟩;rcases e with e|e
  exact .inl w_;exact .inr (by simpa using e)
def afr:uH 49 Ca:=by
 intro a9 G h w xs wr hx;refine⟨λu=>?_,λn g cs b1 u hl U=>?_⟩;unfold Ca at u;split at u;cases hx with
 |cons p q=>
  cases q;cases p;refine .inr ⟨Go.Proofs.enters_of Tryz.func49 k_ rfl _ _,(AnyM.slices_Sort_string_none Tryz.sort48 Z 0 w).mono ?_⟩;rintro e V ⟨rfl,rfl⟩;exact⟨_,rfl,G,wr,.refl,.tup .nil⟩
 cases u;cases u;unfold Ca at u;split at u;cases u;rename_i m len a7;simp only[aR,bu]at u;obtain⟨rfl,rfl⟩:=u;have U:=HP U
 let⟨hb,U⟩:=bf U
 simp only[bh]at hb;have D:=Nat.eq_of_beq_eq_true hb.1;have b0:=Nat.le_of_ble_eq_true hb.2;simp only[an,aR]at U;obtain⟨l,h1,rfl⟩:=U;have N:=Jd h1;subst N;rw[bj]at D;cases hx with
 |cons p q=>
  cases q;obtain⟨a,b,a0,rfl,P,B,a8,a4,d,z,hd⟩:=N7 p
  let⟨b',hb',_,C,e,hC,hdimC,N⟩:=wr.obj m _ hl
  rw[P]at hb';cases hb';rw[hdimC]at z;injection z with z
  have a5:∀i (F:i<J l),C[b.off+i]?=X (encStr l[i]):=λi F=>by
   let⟨_,x,hx1,hx2⟩:=N i (ax l[i]) (by rw[gZ,dp F];rfl)
   cases hx2;exact hx1
  have a1:(iQ l).length=J l:=(B9 l).length_eq;have H:∀n T,∃S,WR S (h.set m (X (.cells ((iQ l).map ax)))) (grow (putRow encStr (Sort.ahead w n) b.block b.off (iQ l).toArray) T)/\ck G h w S (h.set m (X (.cells ((iQ l).map ax)))) (grow (putRow encStr (Sort.ahead w n) b.block b.off (iQ l).toArray) T) 0 0/\VR S (.tup []) (.tuple #[]):=λn T=>by
   refine Mv wr hl P encStr (iQ l).toArray n T (λC' e' A=>?_) (λi v F=>?_);rw[hC]at A;injection A with A;injection A with A _ _;subst A
   rw[List.size_toArray,a1,z];omega;rw[gZ,pH]at F;obtain⟨s,hs,rfl⟩:=F
   let⟨F,hs⟩:=gn.1 hs
   refine⟨by simpa using F,rfl,?_⟩;have:(iQ l).toArray[i]! =s:=by simp[F,hs]
   rw[this];exact .str s
  rcases a4 with h0|⟨M,K⟩
  have a2:l=[]:=su w_;subst a2;have a6:len=0:=h0;subst a6;refine .inr ⟨Go.Proofs.enters_of Tryz.func49 k_ rfl _ _,(AnyM.slices_Sort_string_none Tryz.sort48 (X a) a0 w).mono ?_⟩;rintro e' V ⟨rfl,rfl⟩
  let⟨S,g1,g2,g3⟩:=H 0 #[]
  have hw:grow (putRow encStr (Sort.ahead V 0) b.block b.off (iQ []).toArray) #[]=V:=by
   rw[Go.Sort.grow_empty,Go.Sort.ahead_zero];exact Go.Sort.putRow_self encStr V b.block b.off _ (λj hj=>by simp[iQ]at hj)
  rw[hw]at g1 g2;exact⟨_,rfl,S,g1,g2,g3⟩
  let⟨ab,ao,asp⟩:=a
  simp only at M K B;subst M;subst K;subst B;have hH:Holds encStr w b.block b.off l.toArray:=λj hj=>by
   have Y:j<J l:=by simpa using hj
   refine⟨?_,by simp[World.frozen?,hC]⟩;rw[kj hC,a5 j Y];simp[Y]
  have a3:=wr.below m b P;rw[<-D];refine .inr ⟨Go.Proofs.enters_of Tryz.func49 k_ rfl _ _,(AnyM.slices_Sort_string Tryz.sort48 b.block b.off a0 l w hH a3 w_).mono ?_⟩;rintro e' V ⟨rfl,n,T,rfl⟩;rw[TF]
  let⟨S,g1,g2,g3⟩:=H n T
  exact⟨_,rfl,S,g1,g2,g3⟩
 cases u
end Go.Proofs.YtnhmcokmdhgpbaaGreat
namespace Go.Proofs.YtnhmcokmdhgpbaaGreat
open Go.Ag
def ct(k:ag):ba->Option Obj
 |[]=>Z
 |o::l=>bif k==o.id then X o else ct k l
theorem oA{k:ag}:∀{l:ba}{q:Obj},ct k l=X q->q∈l/\q.id=k
 |[],_,h=>by cases h
 |o::r,q,h=>by
  simp only[ct]at h;cases hb:k==o.id;rw[hb]at h
  let⟨h1,h2⟩:=oA h
  exact⟨by simp[h1],h2⟩;rw[hb]at h;cases h;have:k=o.id:=by simpa using hb
  exact⟨by simp,this.symm⟩
def xe:∀(l:ba)(last:ag),lG last l=O->(∀k∈l.map (·.id),gQ last k=O)/\(l.map (·.id)).Pairwise (λa b=>gQ a b=O)
 |[],_,_=>⟨λk h=>(by cases h),List.Pairwise.nil⟩
 |o::r,last,h=>by
  simp only[lG]at h;cases hb:(!dC o||Ag.leBytes o.id last);rw[hb]at h;simp only[v6]at hb
  let⟨h1,h2⟩:=xe r o.id h
  have e:gQ last o.id=O:=by rw[R1,hb.2];rfl
  refine⟨λk d=>?_,qJ.2 ⟨h1,h2⟩⟩;rcases dG.1 d with rfl|d
  exact e;have g:=h1 k d;rw[Go.Proofs.bytesLess_eq,dE]at e g⊢;exact List.lt_trans e g;rw[hb]at h;cases h
def awK(k:ag):gQ k k=I:=by
 rw[Go.Proofs.bytesLess_eq];exact dN (List.lt_irrefl k)
def rz{l:ba}(h:bw l=O):(l.map (·.id)).Nodup:=by
 simp only[bw,bh]at h;refine(xe l [] h.1).2.imp λd e=>?_;subst e;rw[awK]at d;cases d
theorem D3:∀{l:ba}{q:Obj},(l.map (·.id)).Nodup->q∈l->ct q.id l=X q
 |[],_,_,h=>by cases h
 |o::r,q,hn,h=>by
  simp only[cU,List.nodup_cons]at hn;simp only[ct];rcases dG.1 h with rfl|h
  simp;have:(q.id==o.id)=I:=bN.2 λe=>hn.1 (by rw[<-e];exact cC.2 ⟨q,h,rfl⟩);rw[this];exact D3 hn.2 h
def o8{g:W_}:∀{l:az},(∀v∈l,g v=X v)->cK g l=X l
 |[],_=>rfl
 |v::l,h=>by
  have d:=o8 (g:=g) (l:=l) λu e=>h u (by simp[e]);simp only[cK,h v (by simp),d,aH]
variable{xs:az}
def JR(h:aC aI){k n:Nat}{r:gS}(e:br (.list n xs r)=O)(d:∀v∈xs,bW h k v=X v):bW h (k+1) (.list n xs r)=X (.list n xs r):=by
 simp only[bW,o8 d,aH];cases r with
 |own m=>simp[br]at e
 |_=>rfl
def Pr(h:aC aI){o:Obj}(j:o.rf)(k:Nat):bW h (k+4) o.val=X o.val:=by
 have u:bW h (k+3) o.refsV=X o.refsV:=by
  have g:=j.pr;rcases j.gT with⟨e,_⟩|⟨r,e⟩
  rw[e];rfl;rw[e]at g⊢;refine JR h g λv d=>?_;obtain⟨s,_,rfl⟩:=cC.1 d;rfl
 have q:bW h (k+3) o.tagsV=X o.tagsV:=by
  have g:=j.pt;rcases j.mt with⟨e,_⟩|⟨r,e⟩
  rw[e];rfl;rw[e]at g⊢;refine JR h g λv d=>?_;obtain⟨s,_,rfl⟩:=cC.1 d;rfl
 show(cK (bW h (k+3)) o.cells).bind (λr=>X (aa.agg r))=_;rw[o8 (l:=o.cells) λv d=>?_];rfl;simp only[Obj.cells,dG,List.not_mem_nil,or_false]at d;rcases d with rfl|rfl|rfl|rfl|rfl|rfl
 rfl;rfl;rfl;rfl;exact u;exact q
def W4{B:Nat}(a0:0<B)(p:(cE)->Nat->Prop)(mono:∀ch n m,n<=m->p ch n->p ch m)(loc:∀ch n,p ch n->∃k,∀u,(∀i,i<k->u i=ch i)->p u n)(all:∀ch,(∀i,ch i<B)->∃n,p ch n):∃N,∀ch,(∀i,ch i<B)->p ch N:=by
 classical
 let rf:be->Prop:=λl=>∃N,∀ch:cE,(∀i,ch i<B)->(∀i x,l[i]?=X x->ch i=x)->p ch N
 have step:∀l,¬rf l->∃c,c<B/\¬rf (l++[c]):=by
  intro l T;refine v8 λM=>T ?_;have M:∀c,c<B->rf (l++[c]):=λc h=>v8 λh'=>M ⟨c,h,h'⟩;have D:∀m,m<=B->∃N,∀c,c<m->∀ch:cE,(∀i,ch i<B)->(∀i x,(l++[c])[i]?=X x->ch i=x)->p ch N:=by
   intro m
   induction m with
   |zero=>exact λ_=>⟨0,λc h=>w_⟩
   |succ m z=>
    intro hm;obtain⟨N1,Y⟩:=z w_;obtain⟨N2,F⟩:=M m w_;refine⟨max N1 N2,λc V ch a b=>?_⟩;by_cases h:c<m;exact mono _ _ _ (Nat.le_max_left _ _) (Y c h ch a b);have:c=m:=w_
    subst this;exact mono _ _ _ (Nat.le_max_right _ _) (F ch a b)
  obtain⟨N,P⟩:=D B (aD _);refine⟨N,λch a b=>P (ch (J l)) (a _) ch a λi x g=>?_⟩;rcases ip i (J l)with h|h
  rw[AG h]at g;exact b i x g;rw[sw h]at g;cases H:i-J l with
  |zero=>
   rw[H]at g;simp only[List.getElem?_cons_zero,aR]at g;have:i=J l:=w_
   rw[this,g]
  |succ j=>rw[H]at g;simp at g
 refine v8 λC=>?_;have h0:¬rf []:=λ⟨N,P⟩=>C ⟨N,λch a=>P ch a λi x g=>by simp at g⟩
 let d:Nat-> {l:be //¬rf l}:=λn=>Nat.rec ⟨[],h0⟩ (λ_ q=>⟨q.1++[(step q.1 q.2).choose],(step q.1 q.2).choose_spec.2⟩) n
 have e:∀n,(d n).1.length=n:=by
  intro n
  induction n with
  |zero=>rfl
  |succ n z=>
   show((d n).1++[_]).length=_;rw[bK,z];rfl
 let ch:Nat->Nat:=λn=>(step (d n).1 (d n).2).choose
 have K:∀n,ch n<B:=λn=>(step (d n).1 (d n).2).choose_spec.1;have A:∀n i,i<n->(d n).1[i]?=X (ch i):=by
  intro n
  induction n with
  |zero=>intro i h;omega
  |succ n z=>
   intro i h;show((d n).1++[ch n])[i]?=_;rcases ip i n with F|F
   rw[AG (by rw[e];exact F)];exact z i F;have:i=n:=w_
   subst this;rw[sw (by rw[e];exact aD _),e];simp
 obtain⟨n,S⟩:=all ch K;obtain⟨k,U⟩:=loc ch n S;exact(d k).2 ⟨n,λu _ b=>U u λi H=>b i _ (A k i H)⟩
def CZ:(aa.nilp).gt=O:=rfl
section
variable{ch:cE}
def at_(k:ag)(L:dd):aa:=(look k L).getD .nilp
end
abbrev Cf:=ag×ag
def wQ(a b:Cf):Bool:=bif a.1==b.1 then bif a.2==b.2 then O else I else I
def VX(a b:Cf):wQ a b=O↔a=b:=by
 let⟨a1,a2⟩:=a
 let⟨b1,b2⟩:=b
 unfold wQ;constructor;intro h;cases h1:a1==b1;simp only[h1,cF,EX]at h;cases h2:a2==b2;simp only[h1,h2,cT,cF,EX]at h;rw[eq_of_beq h1,eq_of_beq h2];intro h;cases h;simp
def aED{v u:aa}{l r:cf}(z:aq 1 ax v l)(j:aq 1 ax u r)(g:br v=O)(d:br u=O)(q:J l<small):EM [v,u]=X (.int .i64 (fU l r)):=by
 have e:bC (J l) small=O:=bH q;simp only[fb,EM,pures,g,d,oo nY z,oo nY j,e]
def gF(a b:l_):Bool:=bif aj a.1 b.1 then bif aj a.2 b.2 then O else I else I
inductive Rows:az->List cf->Prop
 |nil:Rows [] []
 |cons {v:aa} {l:cf} {vs:az} {ls:List cf}:aq 1 ax v l->br v=true->Rows vs ls->Rows (v::vs) (l::ls)
section
variable{Q:ay}{f:FuncId}
def anF:cx->Bool
 |.none=>O
 |.loc _=>O
 |_=>I
def WX(Q:ay)(f:FuncId)(s:St):mm->Fr->(Fr->Prop)->Prop
 |[],fr,N=>N fr
 |o::l,fr,N=>∃v d,jO fr.env o.g=O/\dL Q f o [] fr s=X (v,fr.loc,s)/\isStore o.op=I/\anF (bP (Q.hint f) o.dst fr.env o.op)=O/\ei fr o.dst v fr.loc=X d/\WX Q f s l d N
end
def bR(sz lo:Nat)(s:St)(ov:aa)(xs:az):Prop:=(ov=.uP/\xs=[])\/(xs≠[]/\∃k,ov=.list sz xs (.own k)/\s.get [] k=X .tok/\lo<=k/\k<s.aL)
variable{lo sz:Nat}{s:St}{ov:aa}
def bR.gt(h:bR sz lo s ov xs):ov.gt=O:=by
 rcases h with⟨rfl,_⟩|⟨_,k,rfl,_⟩<;>rfl
def bR.keep{s':St}(h:bR sz lo s ov xs)(e:∀n,lo<=n->s'.get [] n=s.get [] n)(u:s.aL<=s'.aL):bR sz lo s' ov xs:=by
 rcases h with h|⟨q,k,j,g,d,z⟩
 exact .inl h;exact .inr ⟨q,k,j,(e k d).trans g,d,w_⟩
theorem cG(s:St)(n:Nat)(o:ra)(h:s.gE<=s.aL):(s.put n o).gE<=(s.put n o).aL:=by
 show(bif aP s.gE n then s.gE else n)<=s.aL;cases hb:aP s.gE n;have:¬s.gE<=n:=λd=>by rw[bH d]at hb;cases hb
 simp only[cF];omega;exact h
variable{E:EI}{t:TypeId}
def Fs(F:jk ae t=X E)(M:E.n=sz)(H:E.b<=88){y:aa}{ys:az}(h:bR sz lo s ov xs)(A:cR [] E.g E.n y s=X ys)(e:J xs+J ys<=1000000)(u:lo<=s.aL)(D:s.gE<=s.aL):
 ∃d j,cL ae [] t ov y I s=X (d,j)/\bR sz lo j d (xs++ys)/\j.ci=s.ci/\s.aL<=j.aL/\j.gE<=j.aL/\(∀n,n<lo->j.get [] n=s.get [] n)/\d.cells=[d]:=by
 subst M;have q:rF ov=O/\ov.cells=[ov]:=by rcases h with⟨rfl,_⟩|⟨_,k,rfl,_⟩<;>exact R_
 cases ys with
 |nil=>
  refine⟨ov,s,?_,by rw[List.append_nil];exact h,rfl,aD _,D,λ_ _=>rfl,q.2⟩;simp only[fq,cL,F,A,q.1]
 |cons z ys=>
  rcases h with⟨rfl,rfl⟩|⟨K,k,rfl,N,S,P⟩
  have B:eE (z::ys).length E.b=O:=tY (by simpa using e) H;refine⟨.list E.n (z::ys) (.own s.aL),s.new .tok,?_,.inr ⟨by simp,s.aL,rfl,by rw[eA,bS];rfl,u,gN _⟩,rfl,Nat.le_succ _,cr D,λn C=>?_,rfl⟩;simp only[fq,cL,F,A,fk,iq,B,cF];rw[eA,bN.2 w_];rfl;have B:eE (J xs+(z::ys).length) E.b=O:=tY e H;refine⟨.list E.n (xs++(z::ys)) (.own s.aL),(s.put k Z).new .tok,?_,.inr ⟨by simp,s.aL,rfl,by rw[eA,kr,bS];rfl,u,gN _⟩,rfl,Nat.le_succ _,cr (cG s k Z D),λn C=>?_,rfl⟩;simp only[ce,cL,F,aH,A,fk,N,B,cj];rw[eA,kr,bN.2 w_,cF,aN,bN.2 w_];rfl
def aej:∀l:cf,pures (l.map ax)=O
 |[]=>rfl
 |a::l=>by
  show(br (ax a)&&pures (l.map ax))=O;rw[aej l];rfl
def aBH:gS->Bool
 |.own _=>I
 |_=>O
def HN(l:cf)(r:gS):br (.list 1 (l.map ax) r)=aBH r:=by
 show(pures (l.map ax)&&_)=_;rw[aej];cases r<;>rfl
def aFR:ae.underlying 25=X (.slice 9):=k_
def CQ(P:Program)(t:TypeId)(a b:Int):cN P .mul t (.int .i64 a) (.int .i64 b)=X (.int .i64 (IntKind.i64.wrap (a*b))):=rfl
def up(T:e_)(o:Nat):Int:=(T[o]?).getD 0
def aEu(a b:cf)(w i k:Nat)(T:e_):e_:=
 T.set (i*w+k) (bif(a[i]?).getD []==(b[k]?).getD []then IntKind.i32.wrap (up T ((i+1)*w+(k+1))+1)else bif aQ (up T ((i+1)*w+k)) (up T (i*w+(k+1)))then up T (i*w+(k+1))else up T ((i+1)*w+k))
def Ma{Q:ay}{f:FuncId}{e:aw}{lc:Ag.Loc}{d:il}{g:SG}{mk:aK}(t:TypeId)(l c:Operand):dL Q f ⟨d,.makeSlice t l c,g⟩ mk ⟨e,sz,lc⟩ s=(ev e l).bind λl=>(ev e c).bind λc=>gj (mo Q.P t l c (aB (om (Q.hint f) d) 2) s) lc:=rfl
theorem pures_all{l:az}(h:∀v∈l,br v=O):pures l=O:=by
 induction l with
 |nil=>rfl
 |cons a l d=>
  show(br a&&pures l)=O;rw[h a (by simp),d λv e=>h v (by simp[e])];rfl
def dS(sz:Nat):az->aa
 |[]=>.uP
 |x::l=>.list sz (x::l) .no
def Bk{h:aC aI}(j:bR sz lo s ov xs){k:Nat}(g:∀v∈xs,bW h k v=X v):bW h (k+1) ov=X (dS sz xs):=by
 rcases j with⟨rfl,rfl⟩|⟨d,n,rfl,_⟩
 rfl;show(cK (bW h k) xs).bind (λe=>X (aa.list sz e .no))=_;rw[o8 g];rcases xs with _|⟨a,l⟩
 exact absurd rfl d;rfl
def Vg(F:jk ae t=X E)(K:E.n=sz)(D:E.b<=88){y:aa}{ys:az}(h:bR sz lo s ov xs)(B:cR [] E.g E.n y s=X ys)(j:ys≠[])(d:J xs+J ys<=1000000)(C:s.gE<=s.aL):
 ∃e,cL ae [] t ov y I s=X (.list sz (xs++ys) (.own s.aL),e)/\e.get [] s.aL=X .tok/\e.ci=s.ci/\e.aL=s.aL+1/\e.gE<=e.aL/\(∀n,n<s.aL->(∀k,ov=.list sz xs (.own k)->n≠k)->e.get [] n=s.get [] n):=by
 subst K;have H:rF ov=O/\ov.cells=[ov]:=by rcases h with⟨rfl,_⟩|⟨_,k,rfl,_⟩<;>exact R_
 rcases ys with _|⟨A,ys⟩
 exact absurd rfl j;rcases h with⟨rfl,rfl⟩|⟨j,k,rfl,M,P,N⟩
 have q:eE (A::ys).length E.b=O:=tY (by simpa using d) D;refine⟨s.new .tok,?_,by rw[eA,bS];rfl,rfl,rfl,cr C,λn z _=>?_⟩;simp only[fq,cL,F,B,fk,iq,q,cF,List.nil_append];rw[eA,bN.2 w_];rfl;have q:eE (J xs+(A::ys).length) E.b=O:=tY d D;refine⟨(s.put k Z).new .tok,?_,by rw[eA,kr,bS];rfl,rfl,rfl,cr (cG s k Z C),λn z u=>?_⟩;simp only[ce,cL,F,aH,B,fk,M,q,cj];rw[eA,kr,bN.2 w_,cF,aN,bN.2 (u k rfl)];rfl
def bR.token(h:bR sz lo s ov xs){k:Nat}(d:ov=.list sz xs (.own k)):lo<=k/\k<s.aL/\s.get [] k=X .tok:=by
 rcases h with⟨rfl,_⟩|⟨_,q,rfl,j,g,e⟩
 cases d;injection d with _ _ h;cases h;exact⟨g,e,j⟩
end Go.Proofs.YtnhmcokmdhgpbaaGreat
namespace Go.Proofs.YtnhmcokmdhgpbaaGreat
open Go.Ag
open Go.Sort (putRow grow Holds SWO HoldsK putRowK flatK get_flatK size_flatK)
attribute[go_sem]Z9 Zr
section
variable{Q:ay}[Std Q]
def akC(e:No Q 155)(d:Q.spec 267=X kD)(a b:ag)(s:St):ai Q 155 [.str a,.str b] s (bD (cM a b)) s:=by
 have r:ai Q 221 [.str a,.str b] s (bD (cM a b)) s:=by
  have q:kD [.str a,.str b]=X (bD (cM a b)):=rfl;refine ai.ofNZ atZ (aM ?_);simp only[go_sem,seval,d,q,bD]
 refine ai.ofNZ ata (aM ?_);simp only[go_sem,seval];exact aV.of r d_ (by simp only[go_sem,seval,bD])
end
def X32:de:=[(267,kD)]
def ahp:eh X32:=.cons akL .nil
theorem SN(x y:Int):lH [x,y]=bif aj x 0 then y else x:=by
 simp only[lH];cases h:aj y 0;cases aj x 0<;>rfl;have:y=0:=by simpa[aj]using h
 subst this;cases aj x 0<;>rfl
def C4:∀a:ag,cM a a=0
 |[]=>rfl
 |x::a=>by
  have:bC x.toNat x.toNat=I:=by rw[qu];exact dN (bJ _)
  simp only[cM,this,cF,C4 a]
def Wg(a b:ag):cM a b= -1\/cM a b=0\/cM a b=1:=by
 induction a generalizing b with
 |nil=>cases b<;>simp[cM]
 |cons x a d=>
  rcases b with _|⟨y,b⟩
  simp[cM];simp only[cM];cases bC x.toNat y.toNat;cases bC y.toNat x.toNat;exact d b;simp;simp
theorem A9(a b:ag):cM b a= -cM a b:=by
 induction a generalizing b with
 |nil=>cases b<;>rfl
 |cons x a g=>
  rcases b with _|⟨y,b⟩
  rfl;simp only[cM];rcases Nat.lt_trichotomy x.toNat y.toNat with h|h|h
  have e:bC x.toNat y.toNat=O:=bH h;have d:bC y.toNat x.toNat=I:=by rw[qu];exact dN w_
  rw[e,d];rfl;have e:bC x.toNat y.toNat=I:=by rw[qu];exact dN w_
  have d:bC y.toNat x.toNat=I:=by rw[qu];exact dN w_
  rw[e,d];exact g b;have e:bC x.toNat y.toNat=I:=by rw[qu];exact dN w_
  have d:bC y.toNat x.toNat=O:=bH h;rw[e,d];rfl
theorem rj{a b:ag}(h:cM a b=0):a=b:=by
 induction a generalizing b with
 |nil=>cases b with
  |nil=>rfl
  |cons y b=>simp[cM]at h
 |cons x a d=>
  rcases b with _|⟨y,b⟩
  simp[cM]at h;simp only[cM]at h;cases h1:bC x.toNat y.toNat;rw[h1]at h;cases h2:bC y.toNat x.toNat;rw[h2]at h;have e:x.toNat=y.toNat:=by
   rw[qu]at h1 h2
   have:=of_decide_eq_false h1
   have:=of_decide_eq_false h2;omega
  rw[UInt8.toNat_inj.1 e,d h];rw[h2]at h;simp at h;rw[h1]at h;simp at h
theorem Ba{a b c:ag}(h1:cM a b<0)(d:cM b c<0):cM a c<0:=by
 induction a generalizing b c with
 |nil=>
  rcases b with _|⟨y,b⟩
  simp[cM]at h1;rcases c with _|⟨z,c⟩
  simp[cM]at d;simp[cM]
 |cons x a e=>
  rcases b with _|⟨y,b⟩
  simp[cM]at h1;rcases c with _|⟨z,c⟩
  simp[cM]at d;simp only[cM,qu]at h1 d⊢;by_cases p:x.toNat<y.toNat;by_cases q:y.toNat<z.toNat;simp[show x.toNat<z.toNat from w_];by_cases q2:z.toNat<y.toNat;simp[q,q2]at d;simp[show x.toNat<z.toNat from w_];by_cases p2:y.toNat<x.toNat;simp[p,p2]at h1;by_cases q:y.toNat<z.toNat;simp[show x.toNat<z.toNat from w_];by_cases q2:z.toNat<y.toNat;simp[q,q2]at d;simp only[p,p2,q,q2,dF,cF]at h1 d;simp only[show¬x.toNat<z.toNat from w_,show¬z.toNat<x.toNat from w_,dF,cF];exact e h1 d
def FE(a b:m_):iJ a b=if cM a.1 b.1=0 then cM a.2 b.2 else cM a.1 b.1:=by
 unfold iJ;by_cases h:cM a.1 b.1=0;have:aj (cM a.1 b.1) 0=O:=by simp[aj,h]
 rw[this,iP h];rfl;have:aj (cM a.1 b.1) 0=I:=by simp[aj,h]
 rw[this,iN h];rfl
def Wh(a b:m_):iJ b a= -iJ a b:=by
 rw[FE,FE,A9 a.1 b.1,A9 a.2 b.2];by_cases h:cM a.1 b.1=0;rw[iP h,iP w_];rw[iN h,iN w_]
def Wj{a b:m_}(h:iJ a b=0):a=b:=by
 rw[FE]at h;by_cases h1:cM a.1 b.1=0;rw[iP h1]at h;exact Prod.ext (rj h1) (rj h);rw[iN h1]at h;exact absurd h h1
def akE(a:m_):iJ a a=0:=by
 rw[FE,iP (C4 _),C4]
def Wi{a b c:m_}(h1:iJ a b<0)(d:iJ b c<0):iJ a c<0:=by
 rw[FE]at h1 d⊢;by_cases p:cM a.1 b.1=0;rw[iP p]at h1;have e:=rj p;by_cases q:cM b.1 c.1=0;rw[iP q]at d;rw[e,iP q];exact Ba h1 d;rw[iN q]at d;rw[e,iN q];exact d;rw[iN p]at h1;by_cases q:cM b.1 c.1=0;have e:=rj q;rw[<-e,iN p];exact h1;rw[iN q]at d
 have:=Ba h1 d;rw[iN w_];exact this
def H5:SWO (ltOf iJ) where
 irrefl x:=by simp[ltOf,akE]
 trans x y z h1 h2:=by
  simp only[ltOf,dE]at*;exact Wi h1 h2
 ntrans x y z h1 h2:=by
  simp only[ltOf,decide_eq_false_iff_not]at*;intro h3;rcases Int.lt_trichotomy (iJ x y) 0 with p|p|p
  exact h1 p;rw[Wj p]at h3;exact h2 h3;have d:iJ y x<0:=by rw[Wh x y];omega
  exact h2 (Wi d h3)
def afL(x y:m_)(h1:ltOf iJ x y=I)(d:ltOf iJ y x=I):x=y:=by
 simp only[ltOf,decide_eq_false_iff_not]at h1 d;rw[Wh x y]at d;exact Wj w_
def acx(x y:m_):Lv x y=ltOf iJ x y:=rfl
def Yq(x:m_):∀l:S0,l.Pairwise (λa b=>(!ltOf iJ b a)=O)->(Bq x l).Pairwise (λa b=>(!ltOf iJ b a)=O)
 |[],_=>by simp[Bq]
 |y::l,h=>by
  simp only[Bq];cases e:Lv y x;rw[acx]at e;refine qJ.2 ⟨λz d=>?_,h⟩;rcases dG.1 d with rfl|d
  rw[e];rfl;have g:=(qJ.1 h).1 z d;simp only[m9]at g⊢;exact H5.ntrans _ _ _ g e;refine qJ.2 ⟨λz d=>?_,Yq x l (qJ.1 h).2⟩;rcases dG.1 ((PL x l).mem_iff.1 d)with rfl|d
  rw[acx]at e;cases hc:ltOf iJ z y;rfl
  have:=H5.trans _ _ _ hc e;rw[H5.irrefl]at this;cases this;exact(qJ.1 h).1 z d
def afk:∀l,(EF l).Pairwise (λa b=>(!ltOf iJ b a)=O)
 |[]=>.nil
 |x::l=>Yq x _ (afk l)
def aD7{l r:S0}(h:l.Perm r)(j:l.Pairwise (λa b=>(!ltOf iJ b a)=O))(g:r.Pairwise (λa b=>(!ltOf iJ b a)=O)):l=r:=by
 refine List.Perm.eq_of_pairwise (le:=λa b=>(!ltOf iJ b a)=O) (λa b _ _ e d=>?_) j g h;simp only[m9]at e d;exact afL a b d e
def G0:Gh:= {at_:=λ_=>Z,ro:=λ_ _=>Z,dim:=λ_=>Z }
def age{a b:World}(h1:a.heap=b.heap)(j:a.tape=b.tape)(g:a.drawn=b.drawn)(e:a.os=b.os)(d:a.output=b.output):a=b:=by
 let⟨_,_,_,_,_⟩:=a
 let⟨_,_,_,_,_⟩:=b
 cases h1;cases j;cases g;cases e;cases d;rfl
end Go.Proofs.YtnhmcokmdhgpbaaGreat
namespace Go.Proofs.YtnhmcokmdhgpbaaGreat
open Go.Ag
def zI(mk:aK)(n m o l c:Nat)(s:St):fZ ae mk 25 (.arr n m o l c) s=X (.int .i64 (l:Nat)):=k_
def ajB(n:Nat):(aa.map n).cells=[.map n]:=rfl
end Go.Proofs.YtnhmcokmdhgpbaaGreat
set_option linter.defProp false
namespace Go.Proofs.YtnhmcokmdhgpbaaGreat
open Go.Ag
attribute[go_sem]agC agD agE ve afK xz qm aj7 ajB ajC
def Obj.rf.all{o:Obj}(h:o.rf):(o.refsV.gt=O/\o.tagsV.gt=O)/\o.refsV.cells=[o.refsV]/\o.tagsV.cells=[o.tagsV]:=⟨⟨h.gT.gt,h.mt.gt⟩,h.gT.scal,h.mt.scal⟩
set_option linter.defProp false in
def sB:=(⟨@sW.eq_1,@ey.eq_1,@ey.eq_2,@eZ.eq_1,@eZ.eq_2,@chunk.eq_1,@chunk.eq_3,@evc.eq_1⟩:_/\_/\_/\_/\_/\_/\_/\_)
variable{n:Nat}{s:St}{o:aI}
theorem cV(h:n<s.aL):(s.new o).get [] n=s.get [] n:=by
 rw[eA,bN.2 (by omega:n≠s.aL)];rfl
def cu:(s.new o).get [] s.aL=X o:=by rw[eA,bS];rfl
def ow(o:aI)(h:s.gE<=s.aL):∃z,s.new o=z/\z.aL=s.aL+1/\z.gE<=z.aL/\(∀k,k<s.aL->z.get [] k=s.get [] k)/\z.get [] s.aL=X o:=⟨_,rfl,rfl,cr h,λ_ d=>cV d,cu⟩
def vt(o p:aI)(h:s.gE<=s.aL):∃z,(s.new o).new p=z/\z.aL=s.aL+2/\z.gE<=z.aL/\(∀k,k<s.aL->z.get [] k=s.get [] k)/\z.get [] s.aL=X o/\z.get [] (s.aL+1)=X p:=⟨_,rfl,rfl,cr (cr h),λ_ d=>(cV (Nat.lt_succ_of_lt d)).trans (cV d),(cV (gN s.aL)).trans cu,cu⟩
def yZ(o p:aI)(h:s.gE<=s.aL):∃z,(s.new o).put s.aL (X p)=z/\z.aL=s.aL+1/\z.gE<=z.aL/\(∀k,k<s.aL->z.get [] k=s.get [] k)/\z.get [] s.aL=X p:=⟨_,rfl,rfl,cG _ _ _ (cr h),λk d=>by rw[aN,bN.2 (Nat.ne_of_lt d)];exact cV d,by rw[aN,bS];rfl⟩
abbrev Pt:=Int×Int
abbrev bG:=Pt×Pt
def fW(a b c:Pt):Int:=(b.1-a.1)*(c.2-a.2)-(b.2-a.2)*(c.1-a.1)
def fw(a b c:Pt):Int:=jF (fW a b c) 0
def jt(s:bG):bG:=bif aQ 0 (ic s.1 s.2)then(s.2,s.1)else s
def vA(s:bG)(p:Pt):Bool:=aj (fw (jt s).1 (jt s).2 p) 0&&(bV (ic (jt s).1 p) 0&&(bV (ic p (jt s).2) 0&&(!gF (jt s).1 (jt s).2||gF p (jt s).1)))
def vn(s t:bG):Pt:=bif aQ 0 (ic t.1 s.1)then t.1 else s.1
def u7(s t:bG):Pt:=bif aQ (ic t.2 s.2) 0 then t.2 else s.2
def BL(s t:bG):Int:=bif gF s.1 s.2 then bif vA t s.1 then bif gF s.1 t.1||gF s.1 t.2 then 1 else 2 else 0
 else bif aj (ic (vn s t) (u7 s t)) (-1)then 5 else bif aj (ic (vn s t) (u7 s t)) 0 then 1 else 0
def Hv(s t:bG):Int:=bif gF t.1 t.2 then BL t s else BL s t
def Ai(s t:bG):Bool:=gF s.1 t.1&&gF s.2 t.2
def Jv(s t:bG):Int:=
 bif aQ 0 (fw s.1 s.2 t.1*fw s.1 s.2 t.2)||aQ 0 (fw t.1 t.2 s.1*fw t.1 t.2 s.2)then 0
 else bif aQ (fw s.1 s.2 t.1*fw s.1 s.2 t.2) 0&&aQ (fw t.1 t.2 s.1*fw t.1 t.2 s.2) 0 then 3
 else bif aj (fw s.1 s.2 t.1*fw s.1 s.2 t.2) 0&&aj (fw t.1 t.2 s.1*fw t.1 t.2 s.2) 0 then 1 else 2
def xJ(s t:bG):Bool:=gF s.1 s.2||gF t.1 t.2||(aj (fw s.1 s.2 t.1) 0&&aj (fw s.1 s.2 t.2) 0)
def BB(s t:bG):Int:=bif Ai s t then 4 else bif xJ s t then Hv s t else Jv s t
def kS(s t:bG):Int:=BB (jt s) (jt t)
def gA(a b:Pt):Prop:=a.1<b.1\/(a.1=b.1/\a.2<=b.2)
theorem Bb(a b:Pt):(ic a b= -1/\gA a b/\a≠b)\/(ic a b=0/\a=b)\/(ic a b=1/\gA b a/\a≠b):=by
 grind [ic,wW,jF,aQ,aj,gA]
variable{a b:Pt}
theorem HM:gF a b=O↔a=b:=by
 grind [gF,aj]
def ab5(a b:Pt):gA a b\/gA b a:=by
 simp only[gA];omega
theorem ab4(h:gA a b)(k:gA b a):a=b:=by
 grind [gA]
def afq(s:bG):gA (jt s).1 (jt s).2:=by
 unfold jt;rcases Bb s.1 s.2 with⟨h,k,_⟩|⟨h,k⟩|⟨h,k,_⟩<;>rw[h]
 exact k;show gA s.1 s.2;rw[k];simp[gA];exact k
theorem afp(s:bG):(jt s=s)\/(jt s=(s.2,s.1)):=by
 grind [jt]
theorem arU:bV (ic a b) 0=O↔gA a b:=by
 grind [Bb,bV,gA]
theorem C3(a:Int):(jF a 0= -1/\a<0)\/(jF a 0=0/\a=0)\/(jF a 0=1/\0<a):=by
 grind [jF,aQ]
def boxes(s t:bG):Prop:=(min s.1.1 s.2.1<=max t.1.1 t.2.1/\min t.1.1 t.2.1<=max s.1.1 s.2.1)/\(min s.1.2 s.2.2<=max t.1.2 t.2.2/\min t.1.2 t.2.2<=max s.1.2 s.2.2)
theorem uQ{D p q c d a b:Int}(F:0<D)(u:0<=p)(j:p<=D)(g:0<=q)(e:q<=D)(h:D*c+p*(d-c)=D*a+q*(b-a)):min c d<=max a b:=by
 by_cases hc:min c d<=max a b;exact hc;exfalso;have C:max a b+1<=c:=w_
 have B:max a b+1<=d:=w_
 have A:a<=max a b:=w_
 have z:b<=max a b:=w_
 generalize max a b=M at*;have P:=Nn C (show 0<=D-p from w_);have N:=Nn B u;have K:=Nn A (show 0<=D-q from w_);have H:=Nn z g
 grind
variable{p:Pt}
theorem PJ(h1:gA a p)(u:gA p b)(h:fW a b p=0):(a.1<=p.1/\p.1<=b.1)/\(min a.2 b.2<=p.2/\p.2<=max a.2 b.2):=by
 have g:a.1<=p.1/\p.1<=b.1:=by
  simp only[gA]at*;omega
 refine⟨g,?_⟩;by_cases e:a.1=b.1;simp only[gA]at*;omega;have d:(b.1-a.1)*p.2+0*(p.2-p.2)=(b.1-a.1)*a.2+(p.1-a.1)*(b.2-a.2):=by
  simp only[fW]at h;grind
 have q:=uQ (show 0<b.1-a.1 from w_) (Int.le_refl 0) w_ w_ w_ d;have j:=uQ (show 0<b.1-a.1 from w_) (show 0<=p.1-a.1 from w_) w_ (Int.le_refl 0) w_ d.symm;omega
variable{c:Pt}
theorem Wm{d:Pt}(g:a≠b)(h1:fW a b c=0)(q:fW a b d=0):fW c d a=0/\fW c d b=0:=by
 let⟨a1,a2⟩:=a
 let⟨b1,b2⟩:=b
 let⟨c1,c2⟩:=c
 let⟨d1,d2⟩:=d
 simp only[fW,ne_eq,bu]at*;by_cases hx:b1-a1=0;have j:b2-a2≠0:=w_
 grind [Int.mul_eq_zero]
 have e:(b1-a1)*((c1-a1)*(d2-a2)-(c2-a2)*(d1-a1))=0:=by grind
 grind [Int.mul_eq_zero]
theorem ak6{d:Pt}(N:¬(fW a b c=0/\fW a b d=0))(h1:¬0<fw a b c*fw a b d)(u:¬0<fw c d a*fw c d b):boxes (a,b) (c,d):=by
 let⟨a1,a2⟩:=a
 let⟨b1,b2⟩:=b
 let⟨c1,c2⟩:=c
 let⟨d1,d2⟩:=d
 have K:fW (a1,a2) (b1,b2) (d1,d2)-fW (a1,a2) (b1,b2) (c1,c2)=fW (c1,c2) (d1,d2) (a1,a2)-fW (c1,c2) (d1,d2) (b1,b2):=by
  simp only[fW];grind
 have C:(fW (a1,a2) (b1,b2) (d1,d2)-fW (a1,a2) (b1,b2) (c1,c2))*c1+(-fW (a1,a2) (b1,b2) (c1,c2))*(d1-c1)=(fW (a1,a2) (b1,b2) (d1,d2)-fW (a1,a2) (b1,b2) (c1,c2))*a1+fW (c1,c2) (d1,d2) (a1,a2)*(b1-a1):=by
  simp only[fW];grind
 have B:(fW (a1,a2) (b1,b2) (d1,d2)-fW (a1,a2) (b1,b2) (c1,c2))*c2+(-fW (a1,a2) (b1,b2) (c1,c2))*(d2-c2)=(fW (a1,a2) (b1,b2) (d1,d2)-fW (a1,a2) (b1,b2) (c1,c2))*a2+fW (c1,c2) (d1,d2) (a1,a2)*(b2-a2):=by
  simp only[fW];grind
 simp only[fw]at h1 u;generalize fW (a1,a2) (b1,b2) (c1,c2)=m1 at*;generalize fW (a1,a2) (b1,b2) (d1,d2)=m2 at*;generalize fW (c1,c2) (d1,d2) (a1,a2)=l1 at*;generalize fW (c1,c2) (d1,d2) (b1,b2)=l2 at*;have H:(m1<=0/\0<=m2)\/(m2<=0/\0<=m1):=by
  rcases C3 m1 with⟨e,k⟩|⟨e,k⟩|⟨e,k⟩<;>rcases C3 m2 with⟨g,j⟩|⟨g,j⟩|⟨g,j⟩<;>rw[e,g]at h1<;>first|omega|(exfalso;exact h1 d_)
 have F:(l1<=0/\0<=l2)\/(l2<=0/\0<=l1):=by
  rcases C3 l1 with⟨e,k⟩|⟨e,k⟩|⟨e,k⟩<;>rcases C3 l2 with⟨g,j⟩|⟨g,j⟩|⟨g,j⟩<;>rw[e,g]at u<;>first|omega|(exfalso;exact u d_)
 have D:m2-m1≠0:=w_
 rcases Int.lt_or_gt_of_ne D with M|q
 have A:(-(m2-m1))*c1+m1*(d1-c1)=(-(m2-m1))*a1+(-l1)*(b1-a1):=by grind
 have z:(-(m2-m1))*c2+m1*(d2-c2)=(-(m2-m1))*a2+(-l1)*(b2-a2):=by grind
 exact⟨⟨uQ w_ w_ w_ w_ w_ A.symm,uQ w_ w_ w_ w_ w_ A⟩,uQ w_ w_ w_ w_ w_ z.symm,uQ w_ w_ w_ w_ w_ z⟩;exact⟨⟨uQ q w_ w_ w_ w_ C.symm,uQ q w_ w_ w_ w_ C⟩,uQ q w_ w_ w_ w_ B.symm,uQ q w_ w_ w_ w_ B⟩
theorem L9:aj (fw a b c) 0=O↔fW a b c=0:=by
 grind [fw,C3,aj]
variable{s t:bG}
theorem Om(h:boxes s t):boxes t s:=⟨h.1.symm,h.2.symm⟩
def SV(h:(s.1.1<=p.1/\p.1<=s.2.1)/\(min s.1.2 s.2.2<=p.2/\p.2<=max s.1.2 s.2.2))(d:p=t.1):boxes s t:=by
 subst d;simp only[boxes];omega
def azl(d:gA s.1 s.2)(h:vA s p=O):(s.1.1<=p.1/\p.1<=s.2.1)/\(min s.1.2 s.2.2<=p.2/\p.2<=max s.1.2 s.2.2):=by
 have e:jt s=s:=by
  unfold jt;rcases Bb s.1 s.2 with⟨h,_⟩|⟨h,_⟩|⟨h,k,n⟩<;>rw[h]
  rfl;rfl;exact absurd (ab4 d k) n
 simp only[vA,e,bh,L9,arU]at h;exact PJ h.2.1 h.2.2.1 h.1
def axx(u:gA s.1 s.2)(q:gA t.1 t.2)(h:gA (vn s t) (u7 s t)):(gA s.1 t.1/\gA t.1 s.2)\/(gA t.1 s.1/\gA s.1 t.2):=by
 let⟨⟨a1,a2⟩,b1,b2⟩:=s
 let⟨⟨c1,c2⟩,d1,d2⟩:=t
 simp only[vn,u7]at h;rcases Bb (c1,c2) (a1,a2)with⟨e,j,_⟩|⟨e,j⟩|⟨e,j,_⟩<;>rcases Bb (d1,d2) (b1,b2)with⟨d,g,_⟩|⟨d,g⟩|⟨d,g,_⟩<;>rw[e,d]at h<;>
  simp only[aQ,gA,bu]at* <;>simp at h<;>omega
theorem axM(u:gA s.1 s.2)(d:gA t.1 t.2)(h:BB s t≠0):boxes s t:=by
 unfold BB at h;cases h1:Ai s t;rw[h1]at h;simp only[cF]at h;have B:∀{s t:bG},gA s.1 s.2->gA t.1 t.2->gF s.1 s.2=O->BL s t≠0->boxes s t:=by
  intro s t u d g h;unfold BL at h;rw[g]at h;cases ho:vA t s.1;rw[ho]at h;exact absurd rfl h;exact Om (SV (azl d ho) rfl)
 cases h2:xJ s t
 grind [xJ,Jv,aQ,ak6,L9]
 rw[h2]at h;simp only[cT,Hv]at h;cases g:gF t.1 t.2;rw[g]at h;simp only[cF]at h;cases hd2:gF s.1 s.2;unfold BL at h;rw[hd2]at h;simp only[xJ,g,hd2,Bool.false_or,bh,L9]at h2;have z:s.1≠s.2:=λe=>by rw[HM.2 e]at hd2;cases hd2
 have C:=Wm z h2.1 h2.2;have A:gA (vn s t) (u7 s t):=by
  rcases Bb (vn s t) (u7 s t)with⟨e,k,_⟩|⟨e,k⟩|⟨e,k,_⟩
  exact k;rw[k];simp[gA];rw[e]at h;exact absurd rfl h
 rcases axx u d A with⟨q,j⟩|⟨q,j⟩
 exact SV (PJ q j h2.1) rfl;exact Om (SV (PJ q j C.1) rfl);exact B u d hd2 h
 grind [Om]
 grind [Ai,HM,boxes]
theorem axP(h:kS s t≠0):boxes s t:=by
 have d:=axM (afq s) (afq t) h
 grind [afp,boxes]
theorem zi(h:gA a b)(n:a≠b):ic a b= -1/\ic b a=1:=by
 grind [Bb,ab4]
theorem axw:vn s t=vn t s:=by
 unfold vn;by_cases h:s.1=t.1;rw[h];rcases ab5 s.1 t.1 with k|k
 rw[(zi k h).1,(zi k h).2];rfl;rw[(zi k (Ne.symm h)).1,(zi k (Ne.symm h)).2];rfl
theorem apg:u7 s t=u7 t s:=by
 unfold u7;by_cases h:s.2=t.2;rw[h];rcases ab5 s.2 t.2 with k|k
 rw[(zi k h).1,(zi k h).2];rfl;rw[(zi k (Ne.symm h)).1,(zi k (Ne.symm h)).2];rfl
theorem azm(h:s.1=s.2)(d:p≠s.1):vA s p=I:=by
 grind [jt,HM,vA]
theorem azk(h1:gF s.1 s.2=I)(d:gF t.1 t.2=I):xJ s t=xJ t s:=by
 grind [HM,xJ,L9,Wm]
theorem axN(s t:bG):BB s t=BB t s:=by
 grind [BB,Ai,xJ,Hv,HM,BL,azm,azk,axw,apg,Jv]
def axL(s t:bG):kS s t=kS t s:=axN _ _
theorem SE:∀(l:ba)(last:ag),lG last l=O->∀q∈l,jl q.mt=O
 |[],_,_,q,h=>by cases h
 |o::r,last,h,q,e=>by
  simp only[lG]at h;cases hb: !dC o||Ag.leBytes o.id last
  rw[hb]at h;rcases dG.1 e with rfl|e
  have d:dC q=O:=by
   cases d:dC q;rw[d]at hb;cases hb;rfl
  unfold dC at d;cases hh:lz q;unfold lz at hh;simp only[v6,EY]at hh;exact hh.1.1.2;rw[hh]at d;cases d;exact SE r o.id h q e;rw[hb]at h;cases h
def not_le{a b:ag}(h:gQ a b=O):Ag.leBytes b a=I:=by
 rw[R1]at h;simpa using h
def ayR{q:Obj}:dC q=O↔lz q=I/\qW q.mT [] [] q.gT=I/\(bif aj q.mT 1 then(J q.gT==0)&&zU q.x q.y else bif aj q.mT 5 then(J q.gT==3)&&Il q else Il q)=O:=by
 unfold dC;cases lz q;cases qW q.mT [] [] q.gT<;>simp;simp
def rR:∀(l:ba)(last:ag),lG last l=O->∀q∈l,dC q=O
 |[],_,_,q,h=>by cases h
 |o::r,last,h,q,d=>by
  simp only[lG]at h;cases hb:(!dC o||Ag.leBytes o.id last);rw[hb]at h;rcases dG.1 d with rfl|d
  simp only[v6,EY]at hb;exact hb.1;exact rR r o.id h q d;rw[hb]at h;cases h
def LM:∀(l:ba)(last:ag),(∀q∈l,dC q=O)->(∀k∈l.map (·.id),gQ last k=O)->(l.map (·.id)).Pairwise (λa b=>gQ a b=O)->lG last l=O
 |[],_,_,_,_=>rfl
 |o::r,last,h,h1,h2=>by
  rw[cU,qJ]at h2;have e:(!dC o||Ag.leBytes o.id last)=I:=by
   rw[h o (by simp),not_le (h1 o.id (by simp))];rfl
  simp only[lG,e,cF];exact LM r o.id (λq d=>h q (by simp[d])) h2.1 h2.2
theorem n8:∀(a b:ag),cM a b<0↔gQ a b=O
 |[],[]=>by simp[cM,Go.Proofs.bytesLess_eq]
 |[],y::b=>by rw[Go.Proofs.bytesLess_eq,dE];simp[cM]
 |x::a,[]=>by rw[Go.Proofs.bytesLess_eq,dE];simp[cM]
 |x::a,y::b=>by
  have d:=n8 a b
  grind [Go.Proofs.bytesLess_eq,List.cons_lt_cons_iff,UInt8.lt_iff_toNat_lt,UInt8.toNat_inj,cM,qu]
theorem awJ{a b:ag}(h:gQ a b=O):gQ b a=I:=by
 grind [Go.Proofs.bytesLess_eq]
theorem akv(a b:ag):iy b a= -iy a b:=by
 grind [iy,awJ]
theorem akx{a b:ag}(h:iy a b=0):a=b:=by
 grind [iy,Go.Proofs.bytesLess_eq]
theorem arM(a:Int):aj (-a) 0=aj a 0:=by
 grind [rC]
theorem Jt:∀a b:cf,fU b a= -fU a b
 |[],[]=>rfl
 |[],_::_=>rfl
 |_::_,[]=>rfl
 |a::x,b::y=>by
  simp only[fU,akv a b,arM,Jt x y];cases aj (iy a b) 0<;>rfl
theorem OM:∀{a b:cf},fU a b=0->a=b
 |[],[],_=>rfl
 |[],_::_,h=>by simp[fU]at h
 |_::_,[],h=>by simp[fU]at h
 |a::x,b::y,h=>by
  simp only[fU]at h;by_cases hz:iy a b=0;rw[hz]at h;rw[akx hz,OM (a:=x) (b:=y) (by simpa[aj]using h)]
  grind [rC]
def gJ(k:ag):wf->C_
 |[]=>Z
 |t::l=>bif t.1==k then X t.2 else gJ k l
def DT(a b:ag):ag:=bif Ag.leBytes a b then a else b
def DQ(a b:ag):ag:=bif gQ a b then b else a
def fI(a b:ag):ag×ag:=(DT a b,DQ a b)
def mS(m:ba)(r:ag):Int:=match ct r m with|some q=>q.mT|none=>0
def dI(m:ba)(r:ag):Bool:=aj (mS m r) 1
def eM(m:ba)(r:ag):Pt:=match ct r m with|some q=>(q.x,q.y)|none=>(0,0)
def mB(o:Obj):S0:=(o.gT.zip (o.gT.tail++(bif aj o.mT 3 then o.gT.take 1 else []))).map λp=>fI p.1 p.2
def Bw(m:ba)(o:Obj):Bool:=(aj o.mT 2||aj o.mT 3)&&o.gT.all (dI m)
def kq(m:ba)(o:Obj):S0:=bif Bw m o then mB o else []
def oD(m:ba)(k:m_):bG:=(eM m k.1,eM m k.2)
def vH{α:Type}:List α->List (α×α)
 |[]=>[]
 |a::l=>l.map (λb=>(a,b))++vH l
def iM(p:m_):cf:=bif p.1==p.2 then [p.1]else [p.1,p.2]
def bU(p:Pt):Bool:= !aQ 2097152 (max p.1 p.2)&&!aQ (min p.1 p.2) (-2097152)
abbrev nt:=List Pt
def oC(r:nt):Bool:=decide (3<=J r)&&(decide (J r<=2000)&&r.all bU)
abbrev wj:=List bG
def fJ(r:nt):wj:=r.zip (r.tail++r.take 1)
def eW(r:nt)(i:Nat):bG:=((r[i]?).getD (0,0),(r[(i+1) % J r]?).getD (0,0))
def mX(r:nt)(i k:Nat):Bool:=bif(i-k==1||i-k==J r-1)then aj (kS (eW r i) (eW r k)) 1 else aj (kS (eW r i) (eW r k)) 0
def jL(r:nt):Bool:=oC r&&((g9 (J r)).all λi=>(g9 i).all λk=>mX r i k)
def vU(a b c:Pt):Int:=(b.1-a.1)*(c.2-b.2)-(b.2-a.2)*(c.1-b.1)
def rg(a n b:Int):Bool:=decide (min a b<=n)&&decide (n<=max a b)
def BK(s:bG)(p:Pt):Bool:=aj (vU s.1 s.2 p) 0&&(rg s.1.1 p.1 s.2.1&&rg s.1.2 p.2 s.2.2)
def vZ(s:bG)(p:Pt):Int:=bif bV s.1.2 p.2&&(aQ p.2 s.2.2&&aQ 0 (vU s.1 s.2 p))then 1 else bif aQ p.2 s.1.2&&(bV s.2.2 p.2&&aQ (vU s.1 s.2 p) 0)then-1 else 0
def zK(p:Pt):wj->Int->Int
 |[],w=>bif aj w 0 then-1 else 1
 |s::l,w=>bif BK s p then 0 else zK p l (w+vZ s p)
def qo(r:nt)(p:Pt):Int:=zK p (fJ r) 0
def si(r:nt)(p:Pt):Int:=bif jL r&&bU p then qo r p else-1
def od(r:nt):nt:=r.map λp=>(2*p.1,2*p.2)
def Bc(r s:nt)(v:Int):Nat:=((fJ r).filter λx=>aj (qo (od s) (x.1.1+x.2.1,x.1.2+x.2.2)) v).length
def nK(a b:bG):Bool:=aj (kS a b) 2||(aj (kS a b) 3||aj (kS a b) 5)
def pk(r s:nt):Int:=
 bif !(jL r&&jL s)then 0 else
 bif(fJ r).any (λa=>(fJ s).any λb=>nK a b)then 0 else
 bif(decide (0<Bc r s 1)&&decide (0<Bc r s (-1)))||(decide (0<Bc s r 1)&&decide (0<Bc s r (-1)))then 0 else
 bif decide (0<Bc r s 1)then 2 else
 bif decide (0<Bc s r 1)then 3 else
 bif decide (0<Bc r s (-1))then 1 else 4
def z9(m:ba)(o:Obj):Option nt:=bif aj o.mT 3&&o.gT.all (dI m)then X (o.gT.map (eM m))else Z
def tR(m:ba)(o:Obj):Option nt:=(z9 m o).bind λr=>bif jL r then X r else Z
def vI(m:ba)(id:ag):Option nt:=(ct id m).bind (tR m)
def jP(m:ba)(r:ag):Option cf:=(ct r m).bind λq=>bif aj q.mT 2&&q.gT.all (dI m)then X q.gT else Z
def tZ(m:ba)(o:Obj):Bool:=((g9 (J o.gT)).zip o.gT).all λp=>bif aj o.mT 5&&p.1==1 then dI m p.2 else(jP m p.2).isSome
def Be(l:cf):ag×ag:=(l.headD [],l.getLastD [])
def Cb(d:ag×ag×Bool×Bool)(e:m_):ag×ag×Bool×Bool:=
 (e.1,e.2,((d.2.2.1&&d.1==e.2)||(d.2.2.2&&d.2.1==e.2)),((d.2.2.1&&d.1==e.1)||(d.2.2.2&&d.2.1==e.1)))
def FH(m:ba)(o:Obj):Bool:=match o.gT.map λr=>Be ((jP m r).getD [])with
 |[]=>O
 |e::l=>(l.foldl Cb (e.1,e.2,O,O)).2.2.1||(l.foldl Cb (e.1,e.2,O,O)).2.2.2
def H9(m:ba)(o:Obj):Bool:=((jP m (o.gT.getD 0 [])).getD []).contains (o.gT.getD 1 [])&&((jP m (o.gT.getD 2 [])).getD []).contains (o.gT.getD 1 [])
def j9(k:Int)(i:Nat):Int:=bif aj k 4||(aj k 5&&!(i==1))then 2 else 1
def Mn(m:ba)(o:Obj):Bool:=((g9 (J o.gT)).zip o.gT).all λp=>aj (mS m p.2) (j9 o.mT p.1)
structure aZ where
 strict:Bool
 area:ag
 mT:Int
 ifK:ag
 ifV:ag
 op:Int
 key:ag
 valuesV:aa
 values:cf
def tC(s:ag):Bool:= !(s== [])&&decide (J s<=200)
def Eo(x:aZ):Bool:=
 bif !(x.area== [])&&!eD x.area then I else bif aQ x.mT 0 then I else bif aQ 5 x.mT then I else bif !eD x.key then I else
 bif !((x.ifK== [])&&(x.ifV== []))&&!(eD x.ifK&&tC x.ifV)then I else
 bif !(aj x.op 2)&&(!(aj x.op 1)&&!(aj x.op 3))then I else bif !(aj x.op 2==decide (0<J x.values))then I else bif decide (60<J x.values)then I else
 x.values.all tC
abbrev vx:=List aZ
def nI(l:vx):Bool:=decide (J l<=200)&&l.all Eo
def vj(x:aZ)(o:Obj):Bool:=bif aj x.op 3 then(gJ x.key o.mt).isNone else bif aj x.op 2 then(match gJ x.key o.mt with|some v=>x.values.contains v|none=>O)else(gJ x.key o.mt).isSome
def OT(x:aZ)(o:Obj):Bool:=(aj x.mT 0||aj x.mT o.mT)&&((x.ifK== [])||gJ x.ifK o.mt==X x.ifV)
def Ae:ag:=[118,105,101,119]
def af7(o:Obj):C_:=(gJ Ae o.mt).bind λs=>bif eD s then X s else Z
def zF(name:ag)(o:Obj):Bool:=match af7 o with|some s=>s==name|none=>O
def iR(m:ba)(name:ag):ba:=m.filter (zF name)
variable{s:St}
def bR.isL{sz lo:Nat}{ov:aa}{α:Type}{enc:α->aa}{l:List α}(h:bR sz lo s ov (l.map enc)):aq sz enc ov l:=by
 rcases h with⟨e,d⟩|⟨_,k,d,_⟩
 exact .inl ⟨e,List.map_eq_nil_iff.1 d⟩;exact .inr ⟨_,d⟩
def uK(u:aa):Option cf:=bif br u then fH 1 jB u else Z
variable{l:cf}{v:aa}
def Jc(h:aq 1 ax v l)(d:br v=O):uK v=X l:=by
 simp only[uK,d,cT,oo nY h]
def Ja{u:aa}(h:uK u=X l):aq 1 ax u l/\br u=O:=by
 unfold uK at h;obtain⟨d,h⟩:=bf h;exact⟨lX (λv a=>pS) h,d⟩
def cm(h:n<4611686018427387904):IntKind.i64.wrap ((n:Int)+1)=((n+1:Nat):Int):=by rw[ka w_ w_];omega
def wP(P:Program)(mk:aK)(d:n_)(mu:Bool)(x y:Int)(s:St):fQ P mk .max d mu [ah x,ah y] s=X (ah (max x y),s):=by
 have:(bif aQ x y then y else x)=max x y:=by
  unfold aQ;by_cases h:x<y;simp[h];omega;simp[h];omega
 simp[fQ,tD,this]
def uM(P:Program)(mk:aK)(d:n_)(mu:Bool)(x y:Int)(s:St):fQ P mk .min d mu [ah x,ah y] s=X (ah (min x y),s):=by
 have:(bif aQ y x then y else x)=min x y:=by
  unfold aQ;by_cases h:y<x;simp[h];omega;simp[h];omega
 simp[fQ,tD,this]
def VH(P:Program)(mk:aK)(d:n_)(mu:Bool)(x y:ag)(s:St):fQ P mk .max d mu [.str x,.str y] s=X (.str (DQ x y),s):=rfl
def VF(P:Program)(mk:aK)(d:n_)(mu:Bool)(x y:ag)(s:St):fQ P mk .min d mu [.str x,.str y] s=X (.str (DT x y),s):=rfl
def aee(a b c d:Int):cN ae .eql 50 (.agg [ah a,ah b]) (.agg [ah c,ah d])=X (.bool (gF (a,b) (c,d))):=Mg a b c d
def aef(a b c d:Int):cN ae .neq 50 (.agg [ah a,ah b]) (.agg [ah c,ah d])=X (.bool (!gF (a,b) (c,d))):=by
 have h:=aee a b c d;rw[NY]at h;rw[ahA];generalize wV ae 50 (.agg [ah a,ah b]) (.agg [ah c,ah d])=x at*;generalize gF (a,b) (c,d)=y at*;rcases x with _|x
 cases h;injection h with h;injection h with h
 subst h;rfl
def aDF(a b c d e f g h:Int):cN ae .eql 209 (.agg [ah a,ah b,ah c,ah d]) (.agg [ah e,ah f,ah g,ah h])=X (.bool (Ai ((a,b),(c,d)) ((e,f),(g,h)))):=by
 have k:wV ae 209 (.agg [ah a,ah b,ah c,ah d]) (.agg [ah e,ah f,ah g,ah h])=
  ((X (aj a e)).bind λr=>bif r then(X (aj b f)).bind λr=>bif r then X O else X I else X I).bind λr=>bif r then((X (aj c g)).bind λr=>bif r then(X (aj d h)).bind λr=>bif r then X O else X I else X I).bind λr=>bif r then X O else X I else X I:=k_
 rw[NY,k];simp only[Ai,gF];cases aj a e<;>cases aj b f<;>cases aj c g<;>cases aj d h<;>rfl
def cd(s:bG):aa:=.agg [ah s.1.1,ah s.1.2,ah s.2.1,ah s.2.2]
def CM:aa->Option bG
 |.agg [.int .i64 a,.int .i64 b,.int .i64 c,.int .i64 d]=>X ((a,b),(c,d))
 |_=>Z
def Ob{p:bG}(h:CM v=X p):v=cd p:=by
 unfold CM at h;split at h;cases h;rfl;cases h
def Vo(s:bG):CM (cd s)=X s:=rfl
def aDv(s:bG):br (cd s)=O:=rfl
def LD(h:bU p=O):(-2097152<=p.1/\p.1<=2097152)/\(-2097152<=p.2/\p.2<=2097152):=by
 simp only[bU,aQ,bh,m9,decide_eq_false_iff_not]at h;omega
def HL(p q:Pt):cN ae .eql 50 (.agg [ah p.1,ah p.2]) (.agg [ah q.1,ah q.2])=X (.bool (gF p q)):=aee ..
def aBc(p q:Pt):cN ae .neq 50 (.agg [ah p.1,ah p.2]) (.agg [ah q.1,ah q.2])=X (.bool (!gF p q)):=aef ..
def aDG(s t:bG):cN ae .eql 209 (.agg [ah s.1.1,ah s.1.2,ah s.2.1,ah s.2.2]) (.agg [ah t.1.1,ah t.1.2,ah t.2.1,ah t.2.2])=X (.bool (Ai s t)):=aDF ..
def Mf(p q:Pt):zY [.agg [ah p.1,ah p.2],.agg [ah q.1,ah q.2]]=X (ah (ic p q)):=rfl
def VI(a b:Int):oX [ah a,ah b]=X (ah (jF a b)):=rfl
theorem TL{s:bG}(h1:bU s.1=O)(d:bU s.2=O):bU (jt s).1=O/\bU (jt s).2=O:=by
 grind [afp]
variable{x y:Int}
def EN(e: -4194304<=x/\x<=4194304)(d: -4194304<=y/\y<=4194304):IntKind.i64.wrap (x-y)=x-y:=ka w_ w_
def DX(e: -8388608<=x/\x<=8388608)(d: -8388608<=y/\y<=8388608): -70368744177664<=x*y/\x*y<=70368744177664:=by
 have g:(x*y).natAbs<=8388608*8388608:=by
  rw[Int.natAbs_mul];exact Nat.mul_le_mul w_ w_
 omega
def Hi(e: -8388608<=x/\x<=8388608)(d: -8388608<=y/\y<=8388608):IntKind.i64.wrap (x*y)=x*y:=by
 have:=DX e d;exact ka w_ w_
def ER(p:Pt):Bool:=decide (-4194304<=p.1)&&decide (p.1<=4194304)&&decide (-4194304<=p.2)&&decide (p.2<=4194304)
def af4(h:ER p=O):(-4194304<=p.1/\p.1<=4194304)/\(-4194304<=p.2/\p.2<=4194304):=by
 simp only[ER,bh,dE]at h;omega
variable{l:nt}
section
variable{Q:ay}[Std Q]
def ayj(B:aq 2 aX v l)(N:J l<=1000000){K:gk}(H:∀e lc,l.all bU=O->K (.exit 0) ⟨e,26,lc⟩ s)(M:∀e lc,l.all bU=I->ac e 2=.bool I->K .ret ⟨e,26,lc⟩ s):
 ∀(r d:nt)(e:aw)(lc:Ag.Loc),l=d++r->l.all bU=r.all bU->ac e 5=v->ac e 6=ak (J l)->ac e 7=ak (J d)->W Q 190 (.loop Qo) ⟨e,26,lc⟩ s K:=by
 have P:=B.gt;intro r
 induction r with
 |nil=>
  intro d e lc j g C A z;have u:=(cz j).symm;refine aF ?_;simp only[go_sem,seval,Qo,A,z,u,bJ];exact H _ _ g
 |cons p r D=>
  intro d e lc j g C A z
  let⟨hlt,ha1⟩:=cH j
  have F:=λlc=>B.at m6.2.2.1 ha1 lc .i64;have q:=cm (n:=J d) w_;rw[List.all_cons]at g;refine aF ?_;cases e1:aQ 2097152 (max p.1 p.2)<;>cases e2:aQ (min p.1 p.2) (-2097152)<;>simp only[bU,e1,e2,Bool.not_true,Bool.not_false,Bool.and_false,Bool.false_and,jf]at g<;>simp only[go_sem,seval,Qo,C,A,z,F,hlt,aX,wP,uM,e1,e2,q];exact D (d++[p]) _ _ (cP j) g (by simp only[sG,seval, *]) (by simp only[sG,seval, *]) (by simp only[sN,seval,sA])
  all_goals exact M _ _ g (by simp only[sN,seval])
def ayk(g:aq 2 aX v l)(z:J l<=1000000)(s:St):ai Q 190 [v] s (.bool (l.all bU)) s:=by
 have B:=g.gt;have j:=λq s=>g.lenS m6 q s;refine ai.ofNZ atE (aM ?_);simp only[go_sem,seval,B,j];refine ayj g z ?_ ?_ l [] _ _ rfl rfl (by simp only[sG,seval, *]) (by simp only[sG,seval, *]) (by simp only[sN,seval];rfl);intro e u d;simp only[go_sem,seval,d];intro e u d A;simp only[go_sem,seval,A,d]
def Sy(d:J l<=4)(h:l.all bU=O)(s:St):ai Q 190 [.list 2 (l.map aX) .Al] s (.bool O) s:=h▸ayk (.inr ⟨.Al,rfl⟩) (Nat.le_trans d d_) s
def afJ(j:bU a=O)(g:bU b=O)(s:St):ai Q 247 [aX a,aX b] s (aX (b.1-a.1,b.2-a.2)) s:=by
 have u:=LD j;have q:=LD g;have e:=EN (x:=b.1) (y:=a.1) w_ w_;have d:=EN (x:=b.2) (y:=a.2) w_ w_;refine ai.ofV Ku.1 Ku.2 Ku.3 Ku.4 (aM ?_);simp only[go_sem,seval,aX,e,d,sB]
def ak7(q:ER a=O)(j:ER b=O)(s:St):ai Q 248 [aX a,aX b] s (bD (a.1*b.2-a.2*b.1)) s:=by
 have B:=af4 q;have A:=af4 j;have z:=DX (x:=a.1) (y:=b.2) w_ w_;have u:=DX (x:=a.2) (y:=b.1) w_ w_;have g:=Hi (x:=a.1) (y:=b.2) w_ w_;have e:=Hi (x:=a.2) (y:=b.1) w_ w_;have d:IntKind.i64.wrap (a.1*b.2-a.2*b.1)=a.1*b.2-a.2*b.1:=ka w_ w_;refine ai.ofNZ at8 (aM ?_);simp only[go_sem,seval,aX,bD,CQ,g,e,d]
def af5(e:bU a=O)(d:bU b=O):ER (b.1-a.1,b.2-a.2)=O:=by
 have j:=LD e;have g:=LD d;simp only[ER,bh,dE];omega
def aAr(q:No Q 192)(e:Q.spec 126=X oX)(d:bU a=O)(j:bU b=O)(g:bU c=O)(s:St):ai Q 192 [aX a,aX b,aX c] s (bD (fw a b c)) s:=by
 refine ai.ofNZ atF (aM ?_);simp only[go_sem,seval,aX,sB];refine aV.of (Sy (l:=[a,b,c]) (show 3<=4 from d_) (by simp only[List.all,d,j,g];rfl) s) d_ ?_;simp only[go_sem,seval];refine aV.of (afJ d j s) d_ ?_;simp only[go_sem,seval,aX];refine aV.of (afJ d g s) d_ ?_;simp only[go_sem,seval,aX];refine aV.of (ak7 (af5 d j) (af5 d g) s) d_ ?_;simp only[go_sem,seval,bD,e,VI];rfl
def TM(d:Q.spec 246=X zY)(t:bG)(s:St):ai Q 191 [cd t] s (cd (jt t)) s:=by
 refine ai.ofV Kr.1 Kr.2 Kr.3 Kr.4 (aM ?_);unfold jt;cases e1:aQ 0 (ic t.1 t.2)<;>simp only[go_sem,seval,cd,d,Mf,e1]
end
def zX:Sp
 |[u,v,w]=>(ny u).bind λa=>(ny v).bind λb=>(ny w).bind λc=>bif bU a&&(bU b&&bU c)then X (bD (fw a b c))else Z
 |_=>Z
def HE(g:bU a=O)(e:bU b=O)(d:bU c=O):zX [aX a,aX b,aX c]=X (bD (fw a b c)):=by
 simp only[fb,zX,Fw,g,e,d]
def aAq:da ae 192 zX:=by
 refine mD U2 λd u h=>?_;unfold zX at h;split at h;simp only[an]at h
 let⟨a,h1,b,h2,c,h4,h⟩:=h
 let⟨h3,h⟩:=bf h
 simp only[bh]at h3;cases h;rw[qY h1,qY h2,qY h4];exact⟨rfl,_,s0,aAr R_ rfl h3.1 h3.2.1 h3.2.2 s0,rfl,1,rfl⟩;cases h
section
variable{Q:ay}[Std Q]
def adu(e:Q.spec 192=X zX)(d:Q.spec 246=X zY)(h1:bU t.1=O)(u:bU t.2=O)(j:bU p=O)(s:St):ai Q 249 [cd t,aX p] s (.bool (vA t p)) s:=by
 have g:=TL h1 u;have q:=HE g.1 g.2 j;refine ai.ofNZ at9 (aM ?_);simp only[go_sem,seval,cd,aX,sB];refine aV.of (Sy (l:=[t.1,t.2,p]) (show 3<=4 from d_) (by simp only[List.all,h1,u,j];rfl) s) d_ ?_;simp only[go_sem,seval];refine aV.of (TM d t s) d_ ?_;unfold vA;generalize jt t=S at*;simp only[aX,bD]at q;cases e1:aj (fw S.1 S.2 p) 0<;>cases e2:bV (ic S.1 p) 0<;>cases e3:bV (ic p S.2) 0<;>cases e4:gF S.1 S.2<;>simp only[go_sem,seval,cd,e,q,d,Mf,HL,aBc,e1,e2,e3,e4]
def azr(e:Q.spec 192=X zX)(d:Q.spec 246=X zY){u v:bG}(j:bU u.1=O)(n2:bU u.2=O)(g:bU v.1=O)(q:bU v.2=O)(z:s.gE<=s.aL):ai Q 193 [cd u,cd v] s (bD (Hv u v)) s:=by
 refine ai.ofNZ atG (aM ?_);unfold Hv BL vn u7;cases x0:gF v.1 v.2<;>cases x1:gF u.1 u.2<;>simp only[go_sem,seval,cd,HL,x0,x1,z,d,Mf];cases y1:aQ 0 (ic v.1 u.1)<;>cases y2:aQ (ic v.2 u.2) 0<;>simp only[go_sem,seval,d,Mf,y2,bD];cases z1:aj (ic u.1 u.2) (-1)<;>cases z2:aj (ic u.1 u.2) 0<;>simp only[go_sem,seval,z2];cases z1:aj (ic u.1 v.2) (-1)<;>cases z2:aj (ic u.1 v.2) 0<;>simp only[go_sem,seval,z2];cases z1:aj (ic v.1 u.2) (-1)<;>cases z2:aj (ic v.1 u.2) 0<;>simp only[go_sem,seval,z2];cases z1:aj (ic v.1 v.2) (-1)<;>cases z2:aj (ic v.1 v.2) 0<;>simp only[go_sem,seval,z2];refine aV.of (adu e d g q j s) d_ ?_;cases vA v u.1<;>cases x3:gF u.1 v.1<;>cases x4:gF u.1 v.2<;>simp only[go_sem,seval,HL,x3,x4,bD]
 all_goals
  refine aV.of (adu e d j n2 g s) d_ ?_;cases vA u v.1<;>cases x3:gF v.1 u.1<;>cases x4:gF v.1 u.2<;>simp only[go_sem,seval,HL,x3,x4,bD]
def adV(a b c:Pt):fw a b c= -1\/fw a b c=0\/fw a b c=1:=by
 unfold fw;rcases C3 (fW a b c)with⟨e,_⟩|⟨e,_⟩|⟨e,_⟩<;>rw[e]<;>simp
def adU(a b c d e f:Pt):IntKind.i64.wrap (fw a b c*fw d e f)=fw a b c*fw d e f:=by
 rcases adV a b c with h|h|h<;>rcases adV d e f with k|k|k<;>rw[h,k]<;>rfl
def tri(n:Int):(aQ 0 n=O/\aQ n 0=I/\aj n 0=I)\/(aQ 0 n=I/\aQ n 0=O/\aj n 0=I)\/aQ 0 n=I/\aQ n 0=I/\aj n 0=O:=by
 rcases Int.lt_trichotomy n 0 with h|h|h<;>simp[aQ,aj]<;>omega
set_option maxRecDepth 8000 in
set_option maxHeartbeats 2000000 in
def axQ(K:No Q 119)(e:Q.spec 192=X zX)(d:Q.spec 246=X zY){u v:bG}(n1:bU u.1=O)(n2:bU u.2=O)(Y:bU v.1=O)(V:bU v.2=O)(q:s.gE<=s.aL):ai Q 119 [cd u,cd v] s (bD (kS u v)) s:=by
 have j:=TL n1 n2;have g:=TL Y V;refine ai.ofNZ asG (aM ?_);simp only[go_sem,seval,cd,sB];refine aV.of (Sy (l:=[u.1,u.2,v.1,v.2]) (show 4<=4 from d_) (by simp only[List.all,n1,n2,Y,V];rfl) s) d_ ?_;simp only[go_sem,seval,q];refine iX.quiet (TM d u s.top) d_ (by rfl) ?_;simp only[go_sem,seval,cd];refine iX.quiet (TM d v s.top) d_ (by rfl) ?_;unfold kS;generalize jt u=S at*;generalize jt v=T at*;have z:=HE j.1 j.2 g.1;have U:=HE j.1 j.2 g.2;have P:=HE g.1 g.2 j.1;have N:=HE g.1 g.2 j.2;have M:=adU S.1 S.2 T.1 S.1 S.2 T.2;have w2:=adU T.1 T.2 S.1 T.1 T.2 S.2;have t1:=tri (fw S.1 S.2 T.1*fw S.1 S.2 T.2);have t2:=tri (fw T.1 T.2 S.1*fw T.1 T.2 S.2);simp only[aX,bD]at z U P N;cases x0:Ai S T<;>cases x1:gF S.1 S.2<;>cases x2:gF T.1 T.2<;>simp only[go_sem,seval,q,cd,aDG,HL,e,z,x0,x1,x2,BB,xJ,bD]
 case' false.false.false=>cases x3:aj (fw S.1 S.2 T.1) 0<;>cases x4:aj (fw S.1 S.2 T.2) 0<;>simp only[go_sem,seval,q,e,z,U,P,N,CQ,M,x4]
 all_goals first
  |refine aV.of (azr e d j.1 j.2 g.1 g.2 q) d_ ?_
   simp only[go_sem,seval,bD]
  |rcases t1 with⟨H,D,B⟩|⟨H,D,B⟩|⟨H,D,B⟩<;>rcases t2 with⟨F,C,A⟩|⟨F,C,A⟩|⟨F,C,A⟩<;>simp only[go_sem,seval,CQ,M,w2,Jv,H,F,D,C,B,A]
end
def kH:Sp
 |[u,v]=>(CM u).bind λa=>(CM v).bind λb=>bif bU a.1&&(bU a.2&&(bU b.1&&bU b.2))then X (bD (kS a b))else Z
 |_=>Z
def Se{a b:bG}(g:bU a.1=O)(n2:bU a.2=O)(e:bU b.1=O)(d:bU b.2=O):kH [cd a,cd b]=X (bD (kS a b)):=by
 simp only[fb,kH,Vo,g,n2,e,d]
def TG5:de:=[(192,zX),(246,zY)]
def Sf:da ae 119 kH:=by
 refine mD (T:=TG5) (.cons aAq (.cons aBb .nil)) λd u h=>?_;unfold kH at h;split at h;simp only[an]at h
 let⟨a,h1,b,h2,h⟩:=h
 let⟨h3,h⟩:=bf h
 simp only[bh]at h3;cases h;rw[Ob h1,Ob h2];exact⟨rfl,_,s0,axQ R_ rfl rfl h3.1 h3.2.1 h3.2.2.1 h3.2.2.2 (aD _),rfl,1,rfl⟩;cases h
end Go.Proofs.YtnhmcokmdhgpbaaGreat
namespace Go.Proofs.YtnhmcokmdhgpbaaGreat
open Go.Ag
open Go.Sort (putRow grow Holds SWO HoldsK putRowK flatK get_flatK size_flatK)
noncomputable def FX(G:Gh)(h:aC aI):Gh:= {at_:=λ_=>Z,ro:=λb o=>(nA G h b o).bind (Bj h),dim:=λ_=>Z }
variable{G:Gh}{h:aC aI}
theorem XC{b o:Nat}{u d:aa}(e:nA G h b o=X u)(f:eY h u d):(FX G h).ro b o=X d:=by
 show(nA G h b o).bind (Bj h)=_;rw[e];exact Xk f
variable{w:World}
theorem aju(wr:WR G h w){b o:Nat}{u:aa}(e:nA G h b o=X u):b<w.heap.size/\u.scal=O/\∃x,w.cell? ⟨b,o,Z⟩=X x/\VR G u x:=by
 rcases Jl e with e|⟨n,a,cs,i,g,d,rfl,rfl,j⟩
 let⟨g,x,d,h3⟩:=wr.ro b o u e
 exact⟨World.block_lt_of_cell? w ⟨b,o,Z⟩ d,g,x,d,h3⟩
 let⟨a',g1,g2,C,t,g3,g4,g5⟩:=wr.obj n _ g
 grind [kj]
theorem aG6{W:World}(wr:WR G h w){d:Nat}(j:∀b o u,nA G h b o=X u->b≠d)(q:∀b,b<w.heap.size->b≠d->W.heap[b]?=w.heap[b]?):WR (FX G h) .nil W:=by
 refine⟨λ_ _ e=>(by cases e),λ_ _ _ _ e=>absurd rfl e,λb o v e=>?_,λ_ _ _ _ _ e=>(by cases e),λ_ _ e=>(by cases e),λ_ _ e=>(by cases e)⟩;simp only[FX,an]at e
 let⟨u,e1,e2⟩:=e
 let⟨h1,h2,x,h3,h4⟩:=aju wr e1
 have g:=Xl e2
 let⟨k,hk⟩:=g
 grind [JS,World.cell?_of_block,thaw,XC]
variable{α:Type}
theorem aEh[Inhabited α](enc:α->er)(k:Nat)(w:World)(d off m:Nat)(g:Array α)(os:Array Go.Obj)(b:Nat)(j:b<w.heap.size)(e:b≠d):(sortWorldK enc k w d off m g os).heap[b]?=w.heap[b]? :=by
 grind [sortWorldK,putRowK,Go.Sort.heap_grow_old,putRow,Go.Sort.mapBlock,Sort.ahead]
theorem akH[Inhabited α]{g:Nat}{sp:Sp}(F:da ae g sp)(Y:∀j w,(callFunc g j).run ae w=.ok (.enter g j) w){G2:Gh}{enc:α->er}{encA:α->aa}(K:∀x,VR G2 (encA x) (.agg (enc x).toArray)){N:α->α->Int}(H:∀x y,sp [encA x,encA y]=X (.int .i64 (N x y)))(k u off size:Nat)(w:World)(D:∀m z B,WR G2 .nil (sortWorldK enc k w u off m B z)):CmpLays ae g #[] enc k N u off size w:=by
 intro m z B _ x y;have D:=D m z B;generalize sortWorldK enc k w u off m B z=W at*;have U:=F _ _ (H x y) G2 .nil W [.agg (enc x).toArray,.agg (enc y).toArray] D (.cons (K x) (.cons (K y) .nil));rcases U with⟨y',d,M,_⟩|⟨_,V⟩
 rw[Y]at M;cases M;refine V.mono ?_;rintro e d ⟨v,rfl,G',_,C,P⟩;cases P;refine⟨rfl,d.drawn-W.drawn,d.heap.extract W.heap.size d.heap.size,?_⟩;have A:=C.quiet;have S:=C.size;have q:d.heap=W.heap++d.heap.extract W.heap.size d.heap.size:=by
  apply Array.ext_getElem?;intro i;by_cases hi:i<W.heap.size;rw[Array.getElem?_append_left hi];exact C.keep i hi λT=>by
   let⟨n,a,h,_⟩:=T
   exact h rfl
  grind
 have hd:=A.2.2.2.2.2;refine age q A.2.2.2.2.1 ?_ A.1 A.2.1;show d.drawn=W.drawn+(d.drawn-W.drawn);omega
def nH{k:Nat}:∀{rows:az},(∀v∈rows,J v.cells=k)->(au rows).length=J rows*k
 |[],_=>by simp[au]
 |v::l,h=>by
  have:=nH (rows:=l) λx d=>h x (iE _ d);rw[au,bK,this,h v gG,bT,jR];omega
theorem Tn{k:Nat}(d:0<k):∀{rows:az},(∀v∈rows,J v.cells=k)->∀t,(au rows)[t]?=(rows[t / k]?).bind λv=>v.cells[t % k]?
 |[],_,t=>by simp[au]
 |v::l,h,t=>by
  have j:=h v gG;have e:=Tn d (rows:=l) λx g=>h x (iE _ g);rw[au];by_cases ht:t<k
  grind [Nat.div_eq_of_lt,Fa]
  rw[sw w_,j,e];have u:t / k=(t-k) / k+1:=by
   rw[<-Nat.add_div_right _ d];congr 1;omega
  have q:t % k=(t-k) % k:=by
   rw[<-Nat.add_mod_right (t-k) k];congr 1;omega
  rw[u,q,Cp]
variable{i:Nat}
theorem aeR{k:Nat}{rows:az}(h:∀v∈rows,J v.cells=k){v:aa}(hi:rows[i]?=X v):cut (au rows) (i*k) k=X v.cells:=by
 induction rows generalizing i with
 |nil=>simp at hi
 |cons x l d=>
  have g:=h x gG;rcases i with _|i
  grind [cut,au,fa]
  rw[Cp]at hi
  have:=d (λy e=>h y (iE _ e)) hi;rw[<-this];simp only[cut,au];have:(x.cells++au l).drop ((i+1)*k)=(au l).drop (i*k):=by
   rw[show(i+1)*k=J x.cells+i*k by rw[g,jR];omega,<-v9,E4]
  rw[this]
def xV{k:Nat}{rows:az}(h:∀v∈rows,J v.cells=k)(hi:i<J rows){x:aa}(z:J x.cells=k):gL (au rows) (i*k) x.cells=X (au (rows.set i x)):=by
 induction rows generalizing i with
 |nil=>simp at hi
 |cons v l g=>
  have j:=h v gG;have C:=nH (rows:=l) λy u=>h y (iE _ u);have d:(v.cells++au l).length=(J l+1)*k:=by rw[bK,j,C,jR];omega
  rcases i with _|i
  have q:aP (0*k+k) ((J l+1)*k)=O:=bH (by rw[jR];omega);have A:(v.cells++au l).drop k=au l:=by rw[<-j,E4]
  rw[CA,dP]at q;simp only[go_sem,Nat.reduceMod,Nat.reduceShiftRight,au,d,z,q,List.set_cons_zero,CA,A];have e:i<J l:=by simpa using hi
  have g:=g (λy u=>h y (iE _ u)) e;have D:i*k+k<=J l*k:=by rw[<-jR];exact kX k e
  have q:aP ((i+1)*k+k) ((J l+1)*k)=O:=bH (by rw[jR,jR];omega);have B:aP (i*k+k) (J l*k)=O:=bH D;simp only[gL,z,C,B,cT,aR]at g;simp only[gL,au,d,z,q,cT,List.set_cons_succ,<-g];have H:(v.cells++au l).take ((i+1)*k)=v.cells++(au l).take (i*k):=by
   rw[show(i+1)*k=J v.cells+i*k by rw[j,jR];omega,List.take_length_add_append]
  have F:(v.cells++au l).drop ((i+1)*k+k)=(au l).drop (i*k+k):=by
   rw[show(i+1)*k+k=J v.cells+(i*k+k) by rw[j,jR];omega,<-v9,E4]
  rw[H,F,List.append_assoc]
abbrev r_:=Nat->Nat->Int
def xO(d:r_)(n:Nat):List (Fin n):=(yx n).mergeSort λi j=> !(ltOf λx y:Fin n=>d x y) j i
def Am(d:r_)(rows:az):az:=(xO d (J rows)).map λi=>rows[i]
def SP(d:r_)(n:Nat):(xO d n).Perm (yx n):=List.mergeSort_perm _ _
def afo(d:r_)(rows:az):(Am d rows).Perm rows:=by
 have h:=(SP d (J rows)).map λi=>rows[i];have e:(yx (J rows)).map (λi=>rows[i])=rows:=by
  refine List.ext_getElem (by simp) λi j g=>?_;simp
 rwa [e]at h
theorem aga{G:Gh}:∀{cs:az}{vs:er},J cs=J vs->(∀(i:Nat) v,cs[i]?=X v->∃x,vs[i]?=X x/\VR G v x)->bO G cs vs
 |[],[],_,_=>.nil
 |[],_::_,h,_=>by simp at h
 |_::_,[],h,_=>by simp at h
 |c::cs,v::vs,h,hv=>by
  let⟨x,d,h2⟩:=hv 0 c rfl
  have d:X v=X x:=d;cases d;exact .cons h2 (aga (by simpa using h) λi u e=>hv (i+1) u e)
theorem TH{k f g:Nat}{ρ:Go.Shelf.Ren}(L:SlLaysF0.n6 ae ρ)(hf:ρ.f 6=f)(aE:∀w,(isAgg (ρ.t 24)).run ae w=.ok O w)(zE:∀w,(Go.sizeOf (ρ.t 24)).run ae w=.ok k w)(ef:∀q w,(callFunc f q).run ae w=.ok (.enter f q) w)(eg:∀q w,(callFunc g q).run ae w=.ok (.enter g q) w){sp:Sp}(b4:da ae g sp)(wr:WR G h w){m lcap:Nat}{rows us:az}(hl:h.get m=X (.cells (au rows)))(hk:∀v∈rows,J v.cells=k/\v=.agg v.cells)(D:0<k)(a1:J us=J rows)(hu:∀(i:Nat) v u,rows[i]?=X v->us[i]?=X u->eY (h.set m Z) v u)(H:r_)(c3:∀(i j:Nat) u u',us[i]?=X u->us[j]?=X u'->sp [u,u']=X (.int .i64 (H i j)))(hO:SWO (ltOf λx y:Fin (J rows)=>H x y))(hT:∀x y:Fin (J rows),(ltOf λx y:Fin (J rows)=>H x y) x y=I->(ltOf λx y:Fin (J rows)=>H x y) y x=I->x=y)(c8:J rows<=1000000){y:Value}(hy:VR G (.arr k m 0 (J rows) lcap) y):
 kh ae f ⟨[y,.func (.func g) #[] #[]]⟩ w λz Y=>∃P,WR P (h.set m (X (.cells (au (Am H rows))))) Y/\ck G h w P (h.set m (X (.cells (au (Am H rows))))) Y 0 0/\VR P (.tup []) z:=by
 subst hf;have S:∀v∈rows,J v.cells=k:=λv hv=>(hk v hv).1;have c9:∀v∈Am H rows,J v.cells=k:=λv hv=>S v ((afo H rows).mem_iff.1 hv);have b5:(Am H rows).length=J rows:=(afo H rows).length_eq;obtain⟨a,b,b2,rfl,F,K,b1,c6,d,B,hd⟩:=N7 hy
 let⟨b',hb',_,C,e,hC,hdimC,hcs⟩:=wr.obj m _ hl
 rw[F]at hb';cases hb';rw[hdimC]at B;injection B with B
 have c4:=wr.below m b F;obtain⟨val,a4⟩:∃val:Nat->Nat->Value,∀(i:Nat) v,rows[i]?=X v->∀(t:Nat) u,v.cells[t]?=X u->C[b.off+(i*k+t)]?=X (val i t)/\VR G u (val i t)/\u.scal=O:=by
  refine⟨λi t=>(C[b.off+(i*k+t)]?).getD .nilFunc,λi v T t u ht=>?_⟩;have a5:t<k:=by
   have:=(gn.1 ht).1;rwa [S v (List.mem_of_getElem? T)]at this
  have e:(au rows)[i*k+t]?=X u:=by
   rw[Tn D S];have e1:(i*k+t) / k=i:=by rw[Nat.add_comm,Nat.add_mul_div_right _ _ D,Nat.div_eq_of_lt a5,dP]
   have e2:(i*k+t) % k=t:=by rw[Nat.add_comm,Nat.add_mul_mod_self_right,Fa a5]
   rw[e1,e2,T];exact ht
  grind
 have hrow:∀(i:Nat) v,rows[i]?=X v->bO G v.cells ((g9 k).map (val i)):=λi v T=>by
  grind [aga]
 have M:∀(i:Nat) v,rows[i]?=X v->dq v.cells=O:=λi v T=>by
  grind [dq,List.getElem?_of_mem]
 have b0:∀n os (N:Array (Fin (J rows))) (a0:Inhabited (Fin (J rows))),J N.toList=J rows->∃P,WR P (h.set m (X (.cells (au (N.toList.map λi=>rows[i]))))) (sortWorldK (λi:Fin (J rows)=>(g9 k).map (val i)) k w b.block b.off n N os)/\
  ck G h w P (h.set m (X (.cells (au (N.toList.map λi=>rows[i]))))) (sortWorldK (λi:Fin (J rows)=>(g9 k).map (val i)) k w b.block b.off n N os) 0 0/\VR P (.tup []) (.tuple #[]):=λn os N a0 c1=>by
  have c2:∀v∈N.toList.map (λi=>rows[i]),J v.cells=k:=λv hv=>by
   grind
  refine Mv wr hl F id (flatK (λi:Fin (J rows)=>(g9 k).map (val i)) k N) n os (λC' e' A=>?_) (λt v ht=>?_);rw[hC]at A;injection A with A;injection A with A _ _;subst A
  rw[size_flatK,<-Array.length_toList,c1,B]
  have:=kX k b1;omega;rw[Tn D c2]at ht;simp only[an,gZ,pH]at ht;obtain⟨r,⟨i,T,rfl⟩,ht⟩:=ht;have b8:t / k<N.size:=by
   have:=(gn.1 T).1;simpa using this
  have c7:t<N.size*k:=by
   have:=Nat.div_add_mod t k
   have:=Nat.mod_lt t D;have h3:(t / k+1)*k<=N.size*k:=kX k b8;rw[jR]at h3
   have:=Nat.div_add_mod t k;rw[Nat.mul_comm]at this;omega
  grind [flatK]
 by_cases hn:J rows=0;have b6:rows=[]:=su hn;subst b6;refine .inr ⟨ef _ _,(AnyF.slices_SortFunc_none L (X a) b2 (.func (.func g) #[] #[]) w).mono ?_⟩;rintro e' Y ⟨rfl,rfl⟩
 let⟨P,g1,g2,g3⟩:=Mv (cs':=[]) wr hl F id (#[]:gy) 0 #[] (λC' e' A=>by
  grind) (λi v T=>by simp at T)
 have hw:grow (putRow id (Sort.ahead Y 0) b.block b.off (#[]:gy)) #[]=Y:=by
  rw[Go.Sort.grow_empty,Go.Sort.ahead_zero];exact Go.Sort.putRow_self id Y b.block b.off _ (λj hj=>by simp at hj)
 rw[hw]at g1 g2;rw[su b5];exact⟨_,rfl,P,g1,g2,g3⟩
 haveI a0:Inhabited (Fin (J rows)):=⟨⟨0,w_⟩⟩
 rcases c6 with h0|⟨V,U⟩
 exact absurd h0 hn
 let⟨ab,ao,asp⟩:=a
 simp only at V U K;subst V;subst U;subst K;have a2:(yx (J rows)).toArray.size=J rows:=by simp
 have hH:HoldsK (λi:Fin (J rows)=>(g9 k).map (val i)) k w b.block b.off (yx (J rows)).toArray:=λj hj=>by
  have a9:j<(yx (J rows)).toArray.size*k:=by rw[size_flatK]at hj;exact hj
  refine⟨?_,by simp[World.frozen?,hC]⟩;have a8:j / k<J rows:=by
   rw[a2]at a9;exact(Nat.div_lt_iff_lt_mul D).2 a9
  have c0:=Nat.mod_lt j D;have a7:=S _ (AI a8)
  let⟨h1,_,_⟩:=a4 (j / k) rows[j / k] (by simp[a8]) (j % k) (rows[j / k].cells[j % k]' w_) (by simp[a7,c0])
  have ej:j / k*k+j % k=j:=by rw[Nat.mul_comm];exact Nat.div_add_mod j k
  rw[ej]at h1
  grind [kj,get_flatK]
 have a3:WR G (h.set m Z) w:=wr.killed m;have b7:∀bb o u,nA G (h.set m Z) bb o=X u->bb≠b.block:=λbb o u hc he=>by
  subst he;rcases Jl hc with hc|⟨n,a',cs,i,g1,g2,g3,_,_⟩
  have:=wr.apart m _ b o u hl F hc;cases this.1;by_cases hnm:n=m
  grind [aC.get_set]
  rw[aC.get_set,iN hnm]at g1;exact hnm (wr.sep n m a' b (by rw[g1];simp) (by rw[hl];simp) g2 F g3)
 have b3:∀x:Fin (J rows),VR (FX G (h.set m Z)) (us[x]'(by rw[a1];exact x.2)) (.agg ((g9 k).map (val x)).toArray):=λx=>by
  have hx:rows[x.1]?=X rows[x]:=by simp
  let⟨kk,hkk⟩:=hu x rows[x] _ hx (dp (by rw[a1];exact x.2))
  refine thaw (λ_ _ _ _=>XC) a3 kk (v:=rows[x]) ?_ hkk;rw[(hk rows[x] (AI _)).2];exact .agg (M x _ hx) (hrow x _ hx)
 have hO:=AnyQ.slices_SortFunc_total L k aE zE (λi:Fin (J rows)=>(g9 k).map (val i)) (λ_=>by simp) (λx v hv=>by
  have hx:rows[x.1]?=X rows[x]:=by simp
  exact(hrow x _ hx).ones (M x _ hx) v hv) (λx y:Fin (J rows)=>H x y) hO g #[] b.block b.off b2 (yx (J rows)).toArray w eg
  (akH b4 eg (G2:=FX G (h.set m Z)) (encA:=λx=>us[x]'(by rw[a1];exact x.2)) b3 (λx y=>c3 x y _ _ (dp _) (dp _)) k b.block b.off _ w
   (λmm os dk=>aG6 a3 b7 λbb c5 a6=>aEh _ _ _ _ _ _ _ _ bb c5 a6)) hH c4 (by rw[a2];omega) hT
 rw[a2]at hO;refine .inr ⟨ef _ _,hO.mono ?_⟩;rintro e' Y ⟨rfl,n,os,rfl⟩
 let⟨P,g1,g2,g3⟩:=b0 n os (xO H (J rows)).toArray a0 (by simpa using(SP H (J rows)).length_eq)
 grind [xO,Am]
end Go.Proofs.YtnhmcokmdhgpbaaGreat
namespace Go.Proofs.YtnhmcokmdhgpbaaGreat
open Go.Ag
variable{Q:ay}[Std Q]
abbrev cQ:=Int×bG
def kF(s:bG):Int:=min s.1.1 s.2.1
def u9(s:bG):Int:=max s.1.1 s.2.1
def qp(s:bG):Int:=min s.1.2 s.2.2
def qf(s:bG):Int:=max s.1.2 s.2.2
def ja(x:cQ):az:=[ah x.1,ah x.2.1.1,ah x.2.1.2,ah x.2.2.1,ah x.2.2.2,ah (kF x.2),ah (u9 x.2),ah (qp x.2),ah (qf x.2)]
def cJ(x:cQ):aa:=.agg (ja x)
abbrev Mt:=Int×Int×Int
def gB(m:Mt):aa:=.agg [ah m.1,ah m.2.1,ah m.2.2]
def BI:Sp
 |[.int .i64 a,.int .i64 b]=>X (aX (min a b,max a b))
 |_=>Z
def azb(d:No Q 182)(a b:Int)(s:St):ai Q 182 [ah a,ah b] s (aX (min a b,max a b)) s:=by
 refine ai.ofV Kq.1 Kq.2 Kq.3 Kq.4 (aM ?_);simp only[go_sem,seval,aX,wP,uM,sB]
def aiK(d:No Q 187)(a b:l_)(s:St):ai Q 187 [aX a,aX b] s (.bool (bV a.1 b.2&&bV b.1 a.2)) s:=by
 refine ai.ofNZ atB (aM ?_);cases e1:bV a.1 b.2<;>simp only[go_sem,seval,aX,e1]
variable{s:St}{x:cQ}
def akG(d:Q.spec 126=X oX)(e:Q.spec 125=X vG){y:cQ}(j:IntKind.i64.wrap (x.1-y.1)=x.1-y.1)(q:s.gE<=s.aL):ai Q 184 [cJ x,cJ y] s (bD (lH [jF (kF x.2) (kF y.2),x.1-y.1])) s:=by
 have g:vG [.list 1 [ah (jF (kF x.2) (kF y.2)),ah (x.1-y.1)] .Al]=X (ah (lH [jF (kF x.2) (kF y.2),x.1-y.1])):=rfl;refine ai.ofNZ atz (aM ?_);simp only[go_sem,seval,cJ,ja,bD,q,d,e,VI,g,j,sB]
def akK(d:Q.spec 125=X vG){x y:Mt}(j:IntKind.i64.wrap (x.1-y.1)=x.1-y.1)(e:IntKind.i64.wrap (x.2.1-y.2.1)=x.2.1-y.2.1)(s:St):ai Q 189 [gB x,gB y] s (bD (lH [x.1-y.1,x.2.1-y.2.1])) s:=by
 have g:vG [.list 1 [ah (x.1-y.1),ah (x.2.1-y.2.1)] .Al]=X (ah (lH [x.1-y.1,x.2.1-y.2.1])):=rfl;refine ai.ofNZ atC (aM ?_);simp only[go_sem,seval,gB,bD,d,g,j,e,sB]
variable{n:Nat}{a:cQ}
def WB(d:s.get [] n=X (.cells (ja a))):ai Q 186 [cJ x,.ptr n 0] s (.bool (aQ (u9 x.2) (kF a.2))) s:=by
 refine ai.ofNZ atA (aM ?_);simp only[go_sem,seval,cJ,ja,d]
def G6(mk:aK)(n m o l c:Nat)(s:St):fZ ae mk 274 (.arr n m o l c) s=X (ah l):=k_
abbrev Ni:=List cQ
variable{R:Ni}
def xi:∀v∈R.map cJ,J v.cells=9:=λv d=>by
 obtain⟨x,_,rfl⟩:=cC.1 d;rfl
variable{m:Nat}
def J8(h:s.get [] m=X (.cells (au (R.map cJ)))){i:Nat}(hi:R[i]?=X x):zJ ae 279 (i*9) (s.get [] m)=X (cJ x):=by
 rw[h,qm,aet,aeR xi (by rw[gZ,hi];rfl)];rfl
def iK(a x:cQ):Bool:=aQ (u9 x.2) (kF a.2)
def tj(p:cQ->Bool):Ni->Nat->Int
 |[],_=> -1
 |x::l,i=>bif p x then(i:Int)else tj p l (i+1)
def arK{lcap len:Nat}(hs:J R<=1000000)(P:len<=J R)(hm:s.get [] m=X (.cells (au (R.map cJ))))(Y:s.get [] n=X (.cells (ja a))){lc:Ag.Loc}{K:gk}{r:Int}(U:∀e,r= -1->K (.exit 0) ⟨e,19,lc⟩ s)(V:∀e,ac e 4=ah r->K .ret ⟨e,19,lc⟩ s):
 ∀(rest d:Ni)(e:aw),R.take len=d++rest->r=tj (iK a) rest (J d)->ac e 0=.arr 9 m 0 len lcap->ac e 1=.func (.func 186) [] [.ptr n 0]->ac e 7=ak len->ac e 8=ak (J d)->W Q 244 (.loop Kt) ⟨e,19,lc⟩ s K:=by
 intro rest;have S:(R.take len).length=len:=by rw[jw];omega
 induction rest with
 |nil=>
  intro d e q A N F z u;have D:J d=len:=by rw[<-S,q];simp
  refine aF ?_;simp only[go_sem,seval,Kt,z,u,D,bJ];exact U _ A
 |cons x rest T=>
  intro d e q A N F z u;have j:J d<len:=by rw[<-S,q];simp
  have M:R[d.length]?=X x:=by
   have:(R.take len)[d.length]?=X x:=by rw[q];simp
   rwa [List.getElem?_take,iP j]at this
  have C:=J8 hm M;have B:=cm (n:=J d) w_;have H:(cJ x).gt=O:=rfl;refine aF ?_;simp only[go_sem,seval,Kt,N,F,z,u,j,C,H];refine aV.of (WB Y) d_ ?_;cases hd:iK a x with
  |true=>
   have g:aQ (u9 x.2) (kF a.2)=O:=hd;simp only[go_sem,seval,g];exact V _ (by simp only[sN,seval,A,tj,hd])
  |false=>
   have g:aQ (u9 x.2) (kF a.2)=I:=hd;simp only[go_sem,seval,g,u,B];refine T (d++[x]) _ (cP q) (by rw[A];simp only[tj,hd,cF,sA]) ?_ ?_ ?_ ?_
   all_goals simp only[sN,seval,N,F,z,sA]
def arL{lcap len:Nat}(g:J R<=1000000)(d:len<=J R)(u:s.get [] m=X (.cells (au (R.map cJ))))(q:s.get [] n=X (.cells (ja a))):ai Q 244 [.arr 9 m 0 len lcap,.func (.func 186) [] [.ptr n 0]] s (bD (tj (iK a) (R.take len) 0)) s:=by
 refine ai.ofNZ aak (aM ?_);simp only[go_sem,seval,G6];refine arK (lcap:=lcap) g d u q (r:=tj (iK a) (R.take len) 0) ?_ ?_ (R.take len) [] _ rfl rfl (by simp only[sG,seval, *]) (by simp only[sG,seval, *]) (by simp only[sG,seval, *]) (by simp only[sN,seval];rfl);intro e j;simp only[go_sem,seval,j];rfl;intro e z;simp only[go_sem,seval,z];rfl
def tagsV(l:wf):aa:=dS 2 (l.map bZ)
end Go.Proofs.YtnhmcokmdhgpbaaGreat
namespace Go.Proofs.YtnhmcokmdhgpbaaGreat
open Go.Ag
attribute[go_sem]PP k54
variable{n:Nat}
def kI{env:aw}{x:Operand}{d:Nat}(h:ev env x=X (.int .i64 (n:Nat))):dK env (X x) d=X n:=by
 simp only[dK,h,aH];rfl
def MO{t e sz:Nat}(B:ae.underlying t=X (.slice e))(j:cW ae e=X sz){α:Type}{enc:α->aa}{V:aa}{l:List α}(F:aq sz enc V l){lo hi:Nat}(h1:lo<=hi)(C:hi<=J l):
 ∃A,(∀(env:aw)(s:St)(low d:sh),dK env d (J l)=X hi->dK env low 0=X lo->eH ae [] t V low d Z env s=X A)/\aq sz enc A ((l.take hi).drop lo)/\(br V=O->br A=O):=by
 rcases F with⟨rfl,rfl⟩|⟨r,rfl⟩
 have z:hi=0:=by simpa using C
 subst z;have z:lo=0:=w_
 subst z;refine⟨.uP,λenv s low d g q=>?_,.inl R_,λ_=>rfl⟩;have g:dK env d 0=X 0:=g;simp only[eH,B,aH,j,g,q];rfl;refine⟨.list sz (((l.map enc).take hi).drop lo) (bif aB hi (J l)&&(bC lo hi||aB lo 0)then r else .no),λenv s low d g q=>?_,.inr ⟨_,by rw[List.map_drop,List.map_take]⟩,λu=>?_⟩;have K:aP hi (J l)=O:=bH C;have H:aP lo hi=O:=bH h1;simp only[fb,eH,B,j,g,q,K,H,Hl,bj];simp only[br,bh]at u⊢;refine⟨?_,?_⟩;exact Go.Ag.pures_all.2 λv D=>Go.Ag.pures_all.1 u.1 v (List.mem_of_mem_take (List.mem_of_mem_drop D));cases aB hi (J l)&&(bC lo hi||aB lo 0);rfl;exact u.2
def Ia:ae.underlying 22=X (.slice 53):=k_
def Nc:ae.underlying 25=X (.slice 9):=k_
variable{Q:ay}[Std Q]
def aDX(mk:aK)(m off len lcap:Nat)(lo hi:sh)(e:aw)(s:St):eH ae mk 274 (.arr 9 m off len lcap) lo hi Z e s=(dK e hi len).bind λh=>(dK e lo 0).bind λl=>bif aP l h&&aP h lcap then X (.arr 9 m (off+l*9) (h-l) (lcap-l))else Z:=by
 have h:eH ae mk 274 (.arr 9 m off len lcap) lo hi Z e s=(dK e hi len).bind λh=>(dK e lo 0).bind λl=>bif aB 9 9&&aP l h&&aP h lcap&&aP lcap lcap&&O then X (.arr 9 m (off+l*9) (h-l) (lcap-l))else Z:=k_
 have q:aP lcap lcap=O:=bH (aD _);rw[h];simp only[Bool.and_true,Nat.beq_refl,jf,q]
variable{R:Ni}{i m:Nat}{s:St}
def YG(h:s.get [] m=X (.cells (au (R.map cJ))))(hi:i<J R)(x:cQ)(lc:Ag.Loc):EL lc s m (i*9) (cJ x) (s.get [] m)=X (lc,s.put m (X (.cells (au ((R.set i x).map cJ))))):=by
 rw[h,du,xV xi (by simpa using hi) rfl];simp only[aH,List.map_set]
structure dz (m:Nat) (s s':St):Prop where
 old:∀k,k≠m->s'.get [] k=s.get [] k
 aL:s'.aL=s.aL
 ci:s'.ci=s.ci
 mw:s'.gE<=s'.aL
def dz.refl(h:s.gE<=s.aL):dz m s s:=⟨λ_ _=>rfl,rfl,rfl,h⟩
theorem dz.put{s':St}(h:dz m s s')(o:ra):dz m s (s'.put m o):=
 ⟨λk d=>by rw[aN,bN.2 d];exact h.old k d,h.aL,h.ci,cG s' m o h.mw⟩
def dz.trans{s' d:St}(h:dz m s s')(k:dz m s' d):dz m s d:=⟨λj e=>(k.old j e).trans (h.old j e),k.aL.trans h.aL,k.ci.trans h.ci,k.mw⟩
def Cm:cQ:=(0,((0,0),(0,0)))
def agk(n:Nat):eZ [ah 0,ah 0,ah 0,ah 0,ah 0,ah 0,ah 0,ah 0,ah 0] n=au ((fB n Cm).map cJ):=by
 induction n with
 |zero=>rfl
 |succ n d=>rw[eZ,d,List.replicate_succ,cU,au];rfl
def aCT(h:i+n<=J R):gL (au (R.map cJ)) (i*9) (au ((fB n Cm).map cJ))=X (au ((R.take i++(fB n Cm++R.drop (i+n))).map cJ)):=by
 have z:R=R.take i++((R.drop i).take n++R.drop (i+n)):=by
  rw[<-v9,wq,wq]
 have q:(au ((R.take i).map cJ)).length=i*9:=by
  rw[nH xi];simp;omega
 have j:(au (((R.drop i).take n).map cJ)).length=n*9:=by
  rw[nH xi];simp;omega
 have g:(au ((fB n Cm).map cJ)).length=n*9:=by
  rw[nH xi];simp
 have e:(au (R.map cJ)).length=J R*9:=by rw[nH xi];simp
 have d:aP (i*9+n*9) (J R*9)=O:=bH w_;have u:au (R.map cJ)=au ((R.take i).map cJ)++(au (((R.drop i).take n).map cJ)++au ((R.drop (i+n)).map cJ)):=by
  conv=>lhs;rw[z]
  rw[db,mQ,db,mQ]
 unfold gL;rw[g,e,d,u];simp only[cT,aR,db,mQ];rw[Un w_,nh w_];congr 2;rw[<-q,<-v9,E4,<-j,E4]
structure Del (R:Ni) (m k:Nat) (K:Ni) (s s':St):Prop where
 but:dz m s s'
 row:∃R':Ni,R'.length=R.length/\R'.take k=K/\s'.get [] m=some (.cells (au (R'.map cJ)))
def Xt(p:cQ->Bool):∀(l:Ni)(k:Nat),(tj p l k= -1/\l.filter (λx=> !p x)=l)\/∃d x e,l=d++x::e/\d.filter (λx=> !p x)=d/\p x=O/\tj p l k=((k+J d:Nat):Int)
 |[],k=>.inl R_
 |x::l,k=>by
  cases h:p x;rcases Xt p l (k+1)with⟨j,g⟩|⟨d,y,e,j,g,u,q⟩
  exact .inl ⟨by simp[tj,h,j],by rw[List.filter_cons,h,g];rfl⟩;refine .inr ⟨x::d,y,e,by rw[j];rfl,by rw[List.filter_cons,h,g];rfl,u,?_⟩;simp only[tj,h,cF,q,bT];omega;exact .inr ⟨[],x,l,rfl,rfl,h,by simp[tj,h]⟩
def ako{c:Nat}(q:s.get [] m=X (.cells (au (R.map cJ))))(h:i+n<=J R)(d:s.gE<=s.aL):∃g,(∀e,fQ ae [] .clear [274] e [.arr 9 m (i*9) n c] s=X (.tup [],g))/\dz m s g/\∃R':Ni,J R'=J R/\R'.take i=R.take i/\g.get [] m=X (.cells (au (R'.map cJ))):=by
 have z:∀e,fQ ae [] .clear [274] e [.arr 9 m (i*9) n c] s=bif aB n 0 then X (.tup [],s)else(s.get [] m).bind λo=>match o with
  |.cells cs=>(gL cs (i*9) (eZ [ah 0,ah 0,ah 0,ah 0,ah 0,ah 0,ah 0,ah 0,ah 0] n)).bind λj=>X (.tup [],s.put m (X (.cells j)))
  |_=>Z:=by
  intro e;have u:ae.underlying 274=X (.slice 279):=k_
  simp only[fQ,u,aH,ri,vQ,lZ];cases aB n 0;simp only[ce,cF];rcases s.get [] m with _|o
  rfl;cases o with
  |cells cs=>
   simp only[aH];cases gL cs (i*9) _<;>rfl
  |_=>rfl
  rfl
 simp only[z];cases hn:aB n 0;rw[q];simp only[cF,aH,agk,aCT h];refine⟨_,λ_=>rfl,(dz.refl d).put _,_,?_,?_,by rw[aN,bS];rfl⟩;simp only[bK,jw,List.length_replicate,List.length_drop];omega;rw[Un (by rw[jw];omega),nh (by rw[jw];omega)];exact⟨s,λ_=>rfl,.refl d,R,rfl,rfl,q⟩
variable{a:cQ}
def ale{lcap len:Nat}{s0:St}(V:n≠m)(hs:J R<=1000000)(a5:len<=J R)(hn:s0.get [] n=X (.cells (ja a))){K:gk}(hx:∀e lc s (i:Nat) (R':Ni),ac e 0=.arr 9 m 0 len lcap->ac e 5=ak i->dz m s0 s->J R'=J R->s.get [] m=X (.cells (au (R'.map cJ)))->i<=len->R'.take i=(R.take len).filter (λx=> !iK a x)->K (.exit 0) ⟨e,42,lc⟩ s):
 ∀(r j i:Nat)(R':Ni)(e:aw)(lc:Ag.Loc)(s:St),r+j=len->i<j->J R'=J R->R'.take i=(R.take j).filter (λx=> !iK a x)->R'.drop j=R.drop j->dz m s0 s->s.get [] m=X (.cells (au (R'.map cJ)))->
  ac e 0=.arr 9 m 0 len lcap->ac e 1=.func (.func 186) [] [.ptr n 0]->ac e 5=ak i->ac e 6=ak j->W Q 185 (.loop Ql) ⟨e,42,lc⟩ s K:=by
 intro r
 induction r with
 |zero=>
  intro j i R' e lc s hr a1 M N P F A g T S H;have hj:j=len:=w_
  subst hj;refine aF ?_;simp only[go_sem,seval,Ql,G6,g,H,bJ];exact hx _ _ _ i R' (by simp only[sN,seval,g]) (by simp only[sN,seval,S]) F M A w_ N
 |succ r ih=>
  intro j i R' e lc s hr a1 M N P F A g T S H;have Y:j<len:=w_
  have C:j<J R:=w_
  have a4:R'[j]?=X R[j]:=by
   have:(R'.drop j)[0]?=(R.drop j)[0]? :=by rw[P]
   simpa[C]using this
  have B:=J8 A a4;have q:=cm (n:=j) w_;have U:=cm (n:=i) w_;have a6:(cJ R[j]).gt=O:=rfl;have a0:i<len:=w_
  have z:=YG A (i:=i) w_ R[j];have u:(R.take (j+1)).filter (λx=> !iK a x)=(R.take j).filter (λx=> !iK a x)++(if !iK a R[j]then [R[j]]else []):=by
   rw[Uo C,Ir];cases hq:iK a R[j]<;>simp[hq]
  have a3:∀x,(R'.set i x).drop (j+1)=R.drop (j+1):=λx=>by
   rw[List.drop_set_of_lt w_,<-v9,P,v9]
  have D:R'.drop (j+1)=R.drop (j+1):=by rw[<-v9,P,v9]
  have a2:s.get [] n=X (.cells (ja a)):=(F.old n V).trans hn;simp only[cJ,ja]at B z;refine aF ?_;simp only[go_sem,seval,Ql,G6,g,T,H,Y,B];refine aV.of (WB (x:=R[j]) a2) d_ ?_;cases hd':aQ (u9 R[j].2) (kF a.2)with
  |true=>
   have d:iK a R[j]=O:=hd';simp only[go_sem,seval,H,q];refine ih (j+1) i R' _ _ s w_ w_ M (by rw[u,d];simpa using N) D F A ?_ ?_ ?_ ?_
   all_goals simp only[sN,seval,g,T,S]
  |false=>
   have d:iK a R[j]=I:=hd';simp only[go_sem,seval,dl,g,S,H,q,U,a0,z];refine ih (j+1) (i+1) (R'.set i R[j]) _ _ _ w_ w_ (by simpa using M) ?_ (a3 _) (F.put _) (by rw[aN,bS];rfl) ?_ ?_ ?_ ?_;rw[u,d];have:(R'.set i R[j]).take (i+1)=R'.take i++[R[j]]:=by
    rw[Uo (by rw[List.length_set];omega),List.take_set_of_le (aD _),List.getElem_set_self]
   rw[this,N];rfl
   all_goals simp only[sN,seval,g,T]
def alg{lcap len:Nat}(K:n≠m)(Y:J R<=1000000)(q:len<=J R)(B:len<=lcap)(N:s.get [] m=X (.cells (au (R.map cJ))))(hn:s.get [] n=X (.cells (ja a)))(z:s.gE<=s.aL):
 ∃v U,ai Q 185 [.arr 9 m 0 len lcap,.func (.func 186) [] [.ptr n 0]] s v U/\(v=.arr 9 m 0 ((R.take len).filter λx=> !iK a x).length lcap/\Del R m ((R.take len).filter λx=> !iK a x).length ((R.take len).filter λx=> !iK a x) s U):=by
 have A:(R.take len).length=len:=by rw[jw];omega
 refine ai.ofNRZ ZN (aM ?_);simp only[go_sem,seval];refine aV.of (arL (lcap:=lcap) Y q N hn) d_ ?_;rcases Xt (iK a) (R.take len) 0 with⟨D,T⟩|⟨g,x,V,D,T,e3,e4⟩
 rw[D];simp only[go_sem,seval,bD];rw[T,A];exact⟨_,rfl,rfl,.refl z,R,rfl,rfl,N⟩
 ·rw[e4,dP]
  have a0:J g<len:=by rw[<-A,D];simp
  have H:aj ((J g:Nat):Int) (-1)=I:=by simp[aj]
  have F:=cm (n:=J g) w_;have u:R.take (J g)=g:=by
   have:(R.take len).take (J g)=g:=by rw[D,List.take_left]
   rwa [List.take_take,Nat.min_eq_left w_]at this
  have hx:R.take (J g+1)=g++[x]:=by
   have:(R.take len).take (J g+1)=g++[x]:=by rw[D,List.take_length_add_append];rfl
   rwa [List.take_take,Nat.min_eq_left w_]at this
  simp only[go_sem,seval,bD,H,F];refine ale (lcap:=lcap) K Y q hn ?_ (len-(J g+1)) (J g+1) (J g) R _ _ s w_ w_ rfl (by rw[u,hx,Ir,T];simp[e3]) rfl (.refl z) N ?_ ?_ ?_ ?_;intro e lc s1 i R' h0 h5 hb hl M C hk
  let⟨s2,q1,q2,R2,q3,q4,q5⟩:=ako (c:=lcap-i) M (i:=i) (n:=len-i) w_ hb.mw
  have P:i=((R.take len).filter λx=> !iK a x).length:=by rw[<-hk,jw];omega
  have n1:∀j,ac j 37=ak i->dK j (X (.tmp 37)) 0=X i:=λj h=>kI (by rw[eC,h]);have n2:∀j,ac j 40=ak i->dK j (X (.tmp 40)) len=X i:=λj h=>kI (by rw[eC,h]);have n3:∀j d,dK j Z d=X d:=λ_ _=>rfl;have S:i<=lcap:=Nat.le_trans C B;simp only[go_sem,seval,h0,h5,aDX,n1,n2,n3,Nat.zero_le,C,B,S,q1,CA,Nat.sub_zero];rw[<-P];exact⟨_,rfl,rfl,hb.trans q2,R2,by rw[q3,hl],by rw[q4,hk],q5⟩
  all_goals simp only[sN,seval]
end Go.Proofs.YtnhmcokmdhgpbaaGreat
namespace Go.Proofs
open Go.Shelf
def Tryz.sortF304_ren:Go.Shelf.Ren:=⟨λ|6=>183|15=>89|14=>243|28=>149|29=>150|20=>276|21=>277|22=>278|23=>279|24=>280|25=>281|26=>282|27=>283|46=>301|47=>215|48=>216|49=>302|50=>303|57=>308|n=>n,λ|22=>274|24=>279|25=>281|3=>3|39=>181|0=>0|53=>244|55=>246|4=>4|46=>237|45=>236|50=>76|5=>5|9=>9|66=>306|70=>310|76=>350|77=>351|n=>n,λ|n=>n⟩
def Tryz.sortF304:Go.Proofs.SlLaysF0.n6 ae Tryz.sortF304_ren:=by
 constructor<;>first|kernel_rfl|(intro _;kernel_rfl)|(refine CO ?_ ?_<;>kernel_rfl)
def Tryz.sortF309_ren:Go.Shelf.Ren:=⟨λ|6=>188|15=>89|14=>245|28=>149|29=>150|20=>284|21=>285|22=>286|23=>287|24=>288|25=>289|26=>290|27=>291|46=>304|47=>215|48=>216|49=>305|50=>306|57=>309|n=>n,λ|22=>210|24=>214|25=>286|3=>3|39=>181|0=>0|53=>244|55=>246|4=>4|46=>237|45=>236|50=>76|5=>5|9=>9|66=>306|70=>310|76=>350|77=>351|n=>n,λ|n=>n⟩
def Tryz.sortF309:Go.Proofs.SlLaysF0.n6 ae Tryz.sortF309_ren:=by
 constructor<;>first|kernel_rfl|(intro _;kernel_rfl)|(refine CO ?_ ?_<;>kernel_rfl)
def Tryz.sortF220_ren:Go.Shelf.Ren:=⟨λ|6=>114|15=>89|14=>181|28=>149|29=>150|20=>235|21=>236|22=>237|23=>238|24=>239|25=>240|26=>241|27=>242|46=>273|47=>215|48=>216|49=>274|50=>275|57=>300|n=>n,λ|22=>129|24=>136|25=>206|3=>3|39=>181|0=>0|53=>244|55=>246|4=>4|46=>237|45=>236|50=>76|5=>5|9=>9|66=>306|70=>310|76=>350|77=>351|n=>n,λ|n=>n⟩
def Tryz.sortF220:Go.Proofs.SlLaysF0.n6 ae Tryz.sortF220_ren:=by
 constructor<;>first|kernel_rfl|(intro _;kernel_rfl)|(refine CO ?_ ?_<;>kernel_rfl)
def Tryz.sortF134_ren:Go.Shelf.Ren:=⟨λ|6=>69|15=>89|14=>120|28=>149|29=>150|20=>194|21=>195|22=>196|23=>197|24=>198|25=>199|26=>200|27=>201|46=>250|47=>215|48=>216|49=>251|50=>252|57=>293|n=>n,λ|22=>43|24=>59|25=>147|3=>3|39=>181|0=>0|53=>244|55=>246|4=>4|46=>237|45=>236|50=>76|5=>5|9=>9|66=>306|70=>310|76=>350|77=>351|n=>n,λ|n=>n⟩
def Tryz.sortF134:Go.Proofs.SlLaysF0.n6 ae Tryz.sortF134_ren:=by
 constructor<;>first|kernel_rfl|(intro _;kernel_rfl)|(refine CO ?_ ?_<;>kernel_rfl)
def Tryz.sortF230_ren:Go.Shelf.Ren:=⟨λ|6=>123|15=>89|14=>204|28=>149|29=>150|20=>256|21=>257|22=>258|23=>259|24=>260|25=>261|26=>262|27=>263|46=>295|47=>215|48=>216|49=>296|50=>297|57=>307|n=>n,λ|22=>25|24=>9|25=>217|3=>3|39=>181|0=>0|53=>244|55=>246|4=>4|46=>237|45=>236|50=>76|5=>5|9=>9|66=>306|70=>310|76=>350|77=>351|n=>n,λ|n=>n⟩
def Tryz.sortF230:Go.Proofs.SlLaysF.n6 ae Tryz.sortF230_ren:=by
 constructor<;>first|kernel_rfl|(intro _;kernel_rfl)|(refine CO ?_ ?_<;>kernel_rfl)
