/- Contracts of the functions that check names, tags, objects, maps. -/
import Derived.Test.YtnnppcoplinajaaGreatZ1b
import Derived.Sort.Walk0
import Derived.Lib.Bytealg
set_option linter.defProp false
open Bool renaming and_eq_true→bA,and_false→ki,and_self→cH,and_true→rr,false_and→iK,false_or→jd,not_false→fy,not_true→dS,or_eq_true→sU,or_false→jL,or_true→l8,true_and→jD,true_or→jM
open List renaming all_cons→ma,all_eq_true→fY,cons_append→mJ,cons_beq_cons→HF,drop→ay,eq_nil_of_length_eq_zero→ub,getElem?_eq_getElem→gL,le_antisymm→AK,length_cons→cP,length_nil→fJ,map_cons→dG,mem_cons→cQ,mem_of_getElem?→ku,mem_range→yP,mergeSort_perm→HL,pairwise_cons→iT,pairwise_mergeSort→HM,range→iv,take→aN
open Nat renaming beq→aJ,ble_eq_true_of_le→cu,blt→bk,le_of_ble_eq_true→eG,le_refl→aU,lt_irrefl→cR,reduceAdd→aG,reduceBEq→aa,reduceLT→ah,reduceLeDiff→aV,zero_add→gl,zero_lt_succ→eH
open Go.Op renaming bytesLess→c8
open Go.Operand renaming const→dK,tmp→aR
open Option renaming bind_eq_some_iff→az,bind_some→bn,map_some→s8
open Option.some renaming injEq→aP
open Go.Ag.aM renaming of2→dz
open Go.Proofs.Tryz renaming prog→ar
open Go.Value renaming string→jO
open Go.Ag.W renaming block→bL,cnFZ→cJ,cnSZ→dq,cnTZ→bU,cond→dJ,exit→dL,loop1→bV,region→fU,reg→bH,ret→bo,sdrawQ→lD,seq→aC,skip→cL,sreg→aw
namespace Go.Proofs.YtnnppcoplinajaaGreat
open Go.Ag
def small:Nat:=9223372036854775808
def fg:small=9223372036854775808:=rfl
abbrev be:=ak×ak
def aF(s:ak):ae:=.str s
def bD(t:be):ae:=.agg [.str t.1,.str t.2]
def mS:ae->Option ak
 | .str s=>some s
 |_=>none
def oP:ae->Option be
 | .agg [.str a,.str b]=>some (a,b)
 |_=>none
def lU{α β:Type}(g:α->Option β):List α->Option (List β)
 | []=>some []
 |a::l=>(g a).bind fun b=>(lU g l).bind fun r=>some (b::r)
def fF{α:Type}(n:Nat)(dec:ae->Option α):ae->Option (List α)
 | .AL=>some []
 | .list m xs _=>bif aJ m n then lU dec xs else none
 |_=>none
variable{v:ae}
def pZ{s:ak}(h:mS v=some s):v=aF s:=by
 unfold mS at h;split at h;injection h with h;subst h;rfl
 cases h
def rO{t:be}(h:oP v=some t):v=bD t:=by
 unfold oP at h;split at h;injection h with h;subst h;rfl
 cases h
def SA{α:Type}{dec:ae->Option α}{enc:α->ae}(hd: ∀v a,dec v=some a->v=enc a): ∀ {xs:List ae} {l:List α},lU dec xs=some l->xs=l.map enc
 | [],l,h=>by simp only[lU,aP] at h;subst h;rfl
 |x::xs,l,h=>by
  simp only[lU,az,aP] at h;obtain⟨a,h1,r,h2,rfl⟩:=h;rw[dG,<-hd x a h1,<-SA hd h2]
def SE{α:Type}{dec:ae->Option α}{enc:α->ae}(hd: ∀a,dec (enc a)=some a): ∀(l:List α),lU dec (l.map enc)=some l
 | []=>rfl
 |a::l=>by simp only[dG,lU,hd,bn,SE hd l]
variable{n:Nat}{α:Type}
def ij{dec:ae->Option α}{enc:α->ae}(hd: ∀v a,dec v=some a->v=enc a){l:List α}(h:fF n dec v=some l):aD n enc v l:=by
 unfold fF at h;split at h;injection h with h;exact .inl ⟨rfl,h.symm⟩
 obtain⟨h1,h2⟩:=bm h
 have:=Nat.eq_of_beq_eq_true h1;subst this;rename_i xs r;exact .inr ⟨r,by rw[SA hd h2]⟩;cases h
def i8{dec:ae->Option α}{enc:α->ae}(hd: ∀a,dec (enc a)=some a){l:List α}(h:aD n enc v l):fF n dec v=some l:=by
 rcases h with⟨rfl,rfl⟩|⟨r,rfl⟩
 rfl;simp only[fF,SE hd,fe,bS,cT]
def Cp{enc:α->ae}(hp: ∀a,aQ (enc a)=true)(l:List α):pures (l.map enc)=true:=by
 rw[pures_all];intro v hv;obtain⟨a,_,rfl⟩:=List.mem_map.1 hv;exact hp a
def JY{enc:α->ae}(hp: ∀a,aQ (enc a)=true){l:List α}(h:aD n enc v l):ie v=true/\aD n enc (weak v) l:=by
 rcases h with⟨rfl,rfl⟩|⟨r,rfl⟩
 exact⟨rfl,.inl ⟨rfl,rfl⟩⟩;exact⟨by simpa[ie] using Cp hp l,.inr (by
  simp only[weak,gK (Cp hp l)];exact⟨_,rfl⟩)⟩
def Vi(s:ak):aQ (aF s)=true:=rfl
def Hp(t:be):aQ (bD t)=true:=rfl
def p8(s:ak):mS (aF s)=some s:=rfl
def tg(t:be):oP (bD t)=some t:=rfl
def bO(s:St)(n m:Nat)(o:Option bf):(s.put n o).get [] m=bif m==n then o else s.get [] m:=by
 simp only[St.get,St.put,dC,cF,aZ.get_set];by_cases h:m=n;subst h;simp;rw[iN h,bN.2 h];rfl
def cp(s:St)(m:Nat)(o:bf):(s.new o).get [] m=bif m==s.al then some o else s.get [] m:=by
 simp only[St.get,St.new,dC,cF,aZ.get_set];by_cases h:m=s.al;subst h;simp;rw[iN h,bN.2 h];rfl
def sq(s:St)(n:Nat)(o:Option bf):(s.put n o).al=s.al:=rfl
def jy(s:St)(o:bf):(s.new o).al=s.al+1:=rfl
def bX(n:Nat):List (ak×ae)->List cw
 | []=>[]
 |(k,v)::l=>⟨.str k,v,n⟩::bX (n+1) l
def look(k:ak):List (ak×ae)->Option ae
 | []=>none
 |(a,v)::l=>bif k==a then some v else look k l
def qy(k:ak):List (ak×ae)->Nat
 | []=>0
 |(a,_)::l=>bif k==a then 0 else qy k l+1
variable{l:List (ak×ae)}{m:Nat}{s:St}{e t:TypeId}
section
variable{P:Program}{kt:TypeId}(heq: ∀a b:List UInt8,lL P 8 kt (.str a) (.str b)=some (a==b))
include heq
def Jd: ∀(l:List (ak×ae)) (k:ak) (n i:Nat),lN P kt (.str k) (bX n l) i=some ((look k l).map fun v=>(i+qy k l,⟨.str k,v,n+qy k l⟩))
 | [],k,n,i=>rfl
 |(a,v)::l,k,n,i=>by
  simp only[bX,lN,heq,bn,look,qy];cases h:k==a with
  |true=>
   have:k=a:=by simpa using h
   subst this;simp
  |false=>
   simp only[cF];rw[Jd l k (n+1) (i+1)];cases look k l with
   |none=>rfl
   |some u=>
    simp only[s8];rw[show i+1+qy k l=i+(qy k l+1) by omega,show n+1+qy k l=n+(qy k l+1) by omega]
def F5{z:ae}(hk: ∀k:List UInt8,qm P t (.str k)=some (kt,e))(hz:ek P e=some z){c:Nat}(hs:s.get [] m=some (.map (bX 0 l) c))(k:ak):
 mU P [] t (.map m) (.str k) false s=some ((look k l).getD z):=by
 simp only[mU,hk,bn,hz,B3,hs,Jd heq l k 0 0];cases look k l<;>rfl
end
def OQ: ∀(l r:List (ak×ae)) (n:Nat),bX n (l++r)=bX n l++bX (n+l.length) r
 | [],r,n=>rfl
 |(a,v)::l,r,n=>by simp only[mJ,bX,OQ l r (n+1),cP];congr 3;omega
def dY(k:ak)(v:ae):List (ak×ae)->List (ak×ae)
 | []=>[(k,v)]
 |(a,u)::l=>bif k==a then(k,v)::l else(a,u)::dY k v l
def od(k j:ak)(v:ae): ∀l,look j (dY k v l)=bif j==k then some v else look j l
 | []=>by
   simp only[dY,look]
 |(a,u)::l=>by
  simp only[dY];cases h:k==a with
  |true=>
   have:k=a:=by simpa using h
   subst this;simp only[cT,look];cases j==k<;>rfl
  |false=>
   simp only[cF,look,od k j v l];cases h2:j==a with
   |false=>rfl
   |true=>
    have:j=a:=by simpa using h2
    subst this;have:(j==k)=false:=by
     cases h3:j==k with
     |false=>rfl
     |true=>have:j=k:=by simpa using h3
            subst this;simp at h
    simp[this]
def P7{k:ak}{v:ae}: ∀ {l},look k l=none->dY k v l=l++[(k,v)]
 | [],_=>rfl
 |(a,u)::l,h=>by
  simp only[look] at h;simp only[dY];cases h1:k==a with
  |true=>rw[h1] at h;cases h
  |false=>rw[h1] at h;simp only[cF,P7 h,mJ]
def OT{k:ak}{u v:ae}: ∀ {l:List (ak×ae)} {n:Nat},look k l=some u->(bX n l).set (qy k l) ⟨.str k,v,n+qy k l⟩=bX n (dY k v l)
 | [],_,h=>by cases h
 |(a,w)::l,n,h=>by
  simp only[look] at h;simp only[dY,qy,bX];cases h1:k==a with
  |true=>simp[bX]
  |false=>
   rw[h1] at h;simp only[cF,List.set_cons_succ,bX];rw[<-OT (l:=l) (n:=n+1) h,show n+(qy k l+1)=n+1+qy k l by omega]
def AC{P:Program}{kt:TypeId}(heq: ∀a b:List UInt8,lL P 8 kt (.str a) (.str b)=some (a==b))(hk: ∀k:List UInt8,qm P t (.str k)=some (kt,e))(hs:s.get [] m=some (.map (bX 0 l) l.length))(k:ak)(v:ae):
 nM P [] t (.map m) (.str k) v s=some (s.put m (some (.map (bX 0 (dY k v l)) (dY k v l).length))):=by
 have hlen: ∀ {l:List (ak×ae)} {u:ae},look k l=some u->(dY k v l).length=l.length:=by
  intro l
  induction l with
  |nil=>intro u h;cases h
  |cons x l ih=>
   obtain⟨a,w⟩:=x;intro u h;simp only[look] at h;simp only[dY];cases h1:k==a with
   |true=>rfl
   |false=>rw[h1] at h;simp only[cF,cP,ih h]
 simp only[nM,hk,bn,hs,Jd heq l k 0 0];cases h:look k l with
 |none=>
  simp only[cK,Option.map_none,P7 h,OQ,gl];rfl
 |some u=>
  have hks:wA (.str k) (.str k)=true:=by simp[wA,Au]
  simp only[s8,hks,cT,hlen h]
  have:=OT (v:=v) (n:=0) h;rw[gl] at this ⊢;rw[this]
def se(b:UInt8):Bool:=xY b.toNat
def BF(b:UInt8):Bool:=zk b.toNat
def yc(s:ak):Bool:=s.all fun b=>se b||BF b||aJ b.toNat 95
def gj(s:ak):Bool:=match s with| []=>false|b::r=>se b&&yc r&&Nat.ble (b::r).length 24
def mV:Sp
 | [.str s]=>bif bk s.length small then some (.bool (gj s)) else none
 |_=>none
def yd{s:ak}(h:s.length<small):mV [.str s]=some (.bool (gj s)):=by
 simp only[mV,jU,h,dT,cT]
def qW(i:Nat)(b:UInt8):Bool:=se b||(!(i==0)&&(BF b||(b.toNat==95)))
def qT:Nat->ak->Bool
 |_,[]=>true
 |i,b::r=>qW i b&&qT (i+1) r
def Lm: ∀(s:ak) (i:Nat),qT (i+1) s=yc s
 | [],_=>rfl
 |b::r,i=>by
  simp only[qT,yc,ma];rw[Lm r (i+1)];simp[qW,yc,Bool.or_assoc,fe]
def Bc(b:UInt8):aK ((vU b.toNat:Nat):Int) 3=se b:=by
 rw[show(3:Int)=((3:Nat):Int) from rfl,o8];unfold vU se;cases xY b.toNat with
 |true=>rfl
 |false=>
  simp only[cF];cases zk b.toNat with
  |true=>rfl
  |false=>
   simp only[cF];cases B7 b.toNat [32,9,10] with
   |true=>rfl
   |false=>
    simp only[cF];cases B7 b.toNat [59,44,46,58,40,41,123,125,91,93,61,60,62,47,45] with
    |true=>rfl
    |false=>
     simp only[cF];cases aJ b.toNat 35<;>cases aJ b.toNat 95<;>cases aJ b.toNat 34<;>rfl
def Ox:(iv 256).all (fun n=>(aJ (vU n) 4==zk n)&&(aJ (vU n) 5==aJ n 95))=true:=by decide+kernel
def II(b:UInt8):aK ((vU b.toNat:Nat):Int) 4=BF b:=by
 rw[show(4:Int)=((4:Nat):Int) from rfl,o8,<-fe]
 have:=fY.1 Ox b.toNat (yP.2 b.toNat_lt);simp only[bA,bE] at this;exact this.1
def Ou(b:UInt8):aK ((vU b.toNat:Nat):Int) 5=(b.toNat==95):=by
 rw[<-fe b.toNat,show(5:Int)=((5:Nat):Int) from rfl,o8,<-fe]
 have:=fY.1 Ox b.toNat (yP.2 b.toNat_lt);simp only[bA,bE] at this;exact this.2
variable{g:Nat}{str:ak}
section
variable{sp:bC}
def ajT(hsmall:str.length<9223372036854775808): ∀(rest pre:ak) (e:aI) (lc:Ag.Loc),str=pre++rest->
 aj e 0= .str str->aj e 3= .Ge 3 g 0->lc.gen 3=g->lc.get 3 g=some (rP 256 0)->aj e 8= .int .i64 (str.length:Nat)->aj e 9= .int .i64 (pre.length:Nat)->
 W (QS sp) 163 (.loop aeM) ⟨e,39,lc⟩ s fun x fr s'=>s'=s/\fr.size=39/\((x= .exit 0/\aj fr.env 0= .str str/\qT pre.length rest=true)\/(x= .ret/\aj fr.env 2= .bool false/\qT pre.length rest=false)):=by
 intro rest
 induction rest with
 |nil=>
  intro pre e lc hpre h0 h3 hg hl h8 h9;have hlen:str.length=pre.length:=by rw[hpre];simp
  refine bV ?_;refine aw ?_;simp only[ai,ah,h8,h9,hlen,cR];refine aC (cJ ?_);refine dL ?_;refine⟨rfl,rfl,.inl ⟨rfl,?_,rfl⟩⟩;simp only[au,aa, *]
 |cons b rest ih=>
  intro pre e lc hpre h0 h3 hg hl h8 h9;have hlt:pre.length<str.length:=by rw[hpre];simp
  have hdrop:str.drop pre.length=b::rest:=by rw[hpre];simp
  have hb:b.toNat<256:=b.toNat_lt;have hcell:=Ov 256 0 b.toNat hb;rw[gl] at hcell;have hwr:=eE (n:=pre.length) (by omega);have hi0:aK (pre.length:Int) 0=(pre.length==0):=o8 _ 0;refine bV ?_;refine aw ?_;simp only[ai,ah,h8,h9,hlt];refine aC (bU (cL ?_));refine aC (bL ?_);refine aw ?_;simp only[ai,aa,ah,h9];refine aw ?_;simp only[ai,ax,aa,ah,h0,h3,hdrop,hb,hg,hl,hcell,Nat.mul_one];refine aw ?_;have fin: ∀e' lc',aj e' 30= .bool true->W (QS sp) 163 (.cond (aR 30) (.seq (.region aeN) .ret) .skip) ⟨e',39,lc'⟩ s fun x fr s'=>x= .ret/\s'=s/\fr.size=39/\aj fr.env 2= .bool false:=by
   intro e' lc' h;refine dJ (t:=true) (by simp only[bq,h]) (aw ?_);simp only[cG,gV,ah];exact bo ⟨rfl,rfl,rfl,by simp only[ik,aa, *]⟩
  cases hL:se b with
  |true=>
   simp only[ai,aa,ah,Bc,hL];refine dq ?_;simp only[dA];refine bH ?_;simp only[ai,aA,aa,ah,h9,hwr];refine(ih (pre++[b]) _ _ (by rw[hpre];simp) (by simp only[au,aa, *]) (by simp only[au,aa, *]) hg hl (by simp only[au,aa, *]) (by simp only[aq,cK,aa])).mono ?_;have hok:qW pre.length b=true:=by simp[qW,hL]
   simp only[cK,qT,hok,jD];exact fun _ _ _ h=>h
  |false=>
  cases hz:pre.length==0 with
  |true=>
   simp only[ai,aa,ah,hi0,Bc,hL,hz];refine(fin _ _ ?_).mono ?_;simp only[aq,aa, *];rintro x fr s' ⟨rfl,rfl,hs,h⟩;exact⟨rfl,hs,.inr ⟨rfl,h,by simp[qT,qW,hL,hz]⟩⟩
  |false=>
  cases hD:BF b with
  |true=>
   simp only[ai,aa,ah,hi0,Bc,II,hL,hz,hD];refine dq ?_;simp only[dA];refine bH ?_;simp only[ai,aA,aa,ah,h9,hwr];refine(ih (pre++[b]) _ _ (by rw[hpre];simp) (by simp only[au,aa, *]) (by simp only[au,aa, *]) hg hl (by simp only[au,aa, *]) (by simp only[aq,cK,aa])).mono ?_;have hok:qW pre.length b=true:=by simp[qW,hL,hz,hD]
   simp only[cK,qT,hok,jD];exact fun _ _ _ h=>h
  |false=>
  cases hU:b.toNat==95 with
  |true=>
   simp only[ai,aa,ah,hi0,Bc,II,Ou,hL,hz,hD,hU];refine dq ?_;simp only[dA];refine bH ?_;simp only[ai,aA,aa,ah,h9,hwr];refine(ih (pre++[b]) _ _ (by rw[hpre];simp) (by simp only[au,aa, *]) (by simp only[au,aa, *]) hg hl (by simp only[au,aa, *]) (by simp only[aq,cK,aa])).mono ?_;have hok:qW pre.length b=true:=by simp[qW,hL,hz,hD,hU]
   simp only[cK,qT,hok,jD];exact fun _ _ _ h=>h
  |false=>
   simp only[ai,aa,ah,hi0,Bc,II,Ou,hL,hz,hD,hU];refine(fin _ _ ?_).mono ?_;simp only[aq,aa, *];rintro x fr s' ⟨rfl,rfl,hs,h⟩;exact⟨rfl,hs,.inr ⟨rfl,h,by simp[qT,qW,hL,hz,hD,hU]⟩⟩
def ajV(h156:sp 260=some Hi)(h94:sp 163=none)(str:ak)(hsmall:str.length<9223372036854775808)(s:St):aM (QS sp) 163 [.str str] s (.bool (gj str)) s:=by
 have hspec:Hi []=some (.agg (rP 256 0)):=rfl;have hln:=Ow 256 0;refine dz Ek.1 Ek.2 Ek.3 Ek.4 h94 ?_;refine aw ?_;simp only[ai,bv,bt,ah,aV];refine aw ?_;have hz:ek ar 320=some (.agg (eW [.int .u8 0] 256)):=by kernel_rfl
 have hrl:(eW [ae.int .u8 0] 256).length=256:=by kernel_rfl
 have hw:bu (eW [ae.int .u8 0] 256) 0 (rP 256 0)=some (rP 256 0):=by
  simp only[bu,hrl,hln,Gp];have:ay (0+256) (eW [ae.int .u8 0] 256)=[]:=List.drop_eq_nil_of_le (by rw[hrl];omega);rw[this];simp
 simp only[ai,ax,h156,hspec,hz,hw,hln,aa,ah,adc];refine aC (aw ?_);simp only[ai,ax,aa,ah];refine bL ?_;refine(ajT hsmall (g:=1) str [] _ _ rfl (by simp only[aq,aa, *]) (by simp only[aq,aa, *]) (by simp only[gi,eZ,aa,cT]) (by simp only[ew,aa,cT]) (by simp only[aq,aa, *]) (by simp only[aq,aa];rfl)).mono ?_;rintro x ⟨e,sz,lc⟩ s' ⟨rfl,hs,⟨rfl,h0,hok⟩|⟨rfl,h2,hok⟩⟩;have hs:sz=39:=hs;subst hs;have h0:aj e 0= .str str:=h0;show W (QS sp) 163 _ _ _ _;refine aw ?_;have hil:ec (str.length:Int) 24=decide (str.length<=24):=lj _ 24;cases str with
 |nil=>
  simp only[ai,aa,ah,h0];refine bo ⟨rfl,.inr rfl,bz ?_ rfl⟩;simp only[aq,aa, *];rfl
 |cons b r=>
  have hne:((b::r:ak)== [])=false:=rfl;simp only[ai,ax,aa,ah,h0,hne];refine bo ⟨rfl,.inr rfl,bz ?_ rfl⟩;simp only[aq,aa];have hn:gj (b::r)=decide ((b::r).length<=24):=by
   simp only[qT,fJ,gl,bA] at hok;have h1:se b=true:=by simpa[qW] using hok.1
   have h2:yc r=true:=by rw[<-Lm r 0];exact hok.2
   simp only[gj,h1,h2,jD,Gp]
  rw[hn];exact congrArg ae.bool hil
 refine⟨rfl,.inr rfl,bz ?_ rfl⟩;rw[h2];cases str with
 |nil=>cases hok
 |cons b r=>
  simp only[qT,fJ,gl,Bool.and_eq_false_iff] at hok;refine congrArg ae.bool ?_;rcases hok with h|h
  have h1:se b=false:=by simpa[qW] using h
  simp[gj,h1];have h2:yc r=false:=by rw[<-Lm r 0];exact h
  simp[gj,h2]
end
def T2:du:=(260,Hi)::T1
def Nc:dc T2:=.cons anU Nb
def ajS:cq ar 163 mV:=by
 intro args v hv G h w xs wr hx;unfold mV at hv;split at hv;rename_i s;obtain⟨h1,hv⟩:=bm hv;injection hv with hv;subst hv
 have h1:s.length<small:=eG h1;exact eA (Q:=QT T2) (ep Nc) (fun _=>eH 1) (args:=[.str s]) (v:=.bool (gj s)) (s':=s0) rfl (ajV (sp:=fun f=>cI f T2) rfl rfl s h1 s0) rfl ⟨1,rfl⟩ G h w xs wr hx;cases hv
def lX(last:ak)(t:be):Bool:= !gj t.1||Ag.leBytes t.1 last||(t.2== [])||decide (200<t.2.length)
def m9:ak->List be->Bool
 |_,[]=>true
 |last,t::r=>bif lX last t then false else m9 t.1 r
def cY(l:List be):Bool:=m9 [] l&&decide (l.length<=60)
variable{l:List be}
section
variable{sp:bC}(h94:sp 163=some mV)
include h94
def aoL(hl:aD 2 bD v l)(hk: ∀t∈l,t.1.length<small)(hsmall:l.length<small): ∀(rest pre:List be) (e:aI) (lc:Ag.Loc) (last:ak),l=pre++rest->
 aj e 0=v->aj e 6=v->aj e 7= .int .i64 (l.length:Nat)->aj e 8= .int .i64 (pre.length:Nat)->aj e 3= .str last->
 W (QS sp) 164 (.loop aeO) ⟨e,39,lc⟩ s fun x fr s'=>s'=s/\fr.size=39/\((x= .exit 0/\aj fr.env 0=v/\m9 last rest=true)\/(x= .ret/\aj fr.env 2= .bool false/\m9 last rest=false)):=by
 intro rest
 induction rest with
 |nil=>
  intro pre e lc last hpre h0 h6 h7 h8 h3;have hlen:l.length=pre.length:=by rw[hpre];simp
  refine bV ?_;refine aw ?_;simp only[ai,ah,h7,h8,hlen,cR,ah];refine aC (dJ (t:=false) (by simp only[bq,Lx]) ?_);refine dL ?_;refine⟨rfl,rfl,.inl ⟨rfl,?_,rfl⟩⟩;simp only[au,aa,h0]
 |cons t rest ih=>
  intro pre e lc last hpre h0 h6 h7 h8 h3;have hlt:pre.length<l.length:=by rw[hpre];simp
  have hat:l[pre.length]? =some t:=by rw[hpre];simp
  have hia:=fun lc=>hl.at lO hat lc .i64;have hcl:=hl.aL;have hns:=yd (hk t (ku hat));have hsm:=fg;have hwr:=eE (n:=pre.length) (by omega);refine bV ?_;refine aw ?_;simp only[ai,ah,h7,h8,hlt,ah];refine aC (dJ (t:=true) (by simp only[bq,Lx]) (cL ?_));refine aC (bL ?_);refine aw ?_;simp only[ai,ax,cut,bu,aN,ay,aa,ah,aG,aV,JH,h6,h8,hia,bD];refine aC (aw ?_);have fin: ∀e' lc',aj e' 32= .bool true->lX last t=true->W (QS sp) 164 (.cond (aR 32) (.seq (.region aeP) .ret) .skip) ⟨e',39,lc'⟩ s fun x fr s'=>x= .ret/\s'=s/\fr.size=39/\aj fr.env 2= .bool false:=by
   intro e' lc' h _;refine dJ (t:=true) (by simp only[bq,h]) (aw ?_);simp only[cG,gV,ah];exact bo ⟨rfl,rfl,rfl,by simp only[ik,aa, *]⟩
  cases hb1:gj t.1 with
  |false=>
   simp only[ai,ax,ay,aa,ah,h94,hns,hb1];refine(fin _ _ ?_ ?_).mono ?_;simp only[aq,aa, *];simp[lX,hb1];rintro x fr s' ⟨rfl,rfl,hs,h⟩;exact⟨rfl,hs,.inr ⟨rfl,h,by simp[m9,lX,hb1]⟩⟩
  |true=>
  cases hb2:Ag.leBytes t.1 last with
  |true=>
   simp only[ai,ax,ay,aa,ah,h3,h94,hns,hb1,hb2];refine(fin _ _ ?_ ?_).mono ?_;simp only[aq,aa, *];simp[lX,hb1,hb2];rintro x fr s' ⟨rfl,rfl,hs,h⟩;exact⟨rfl,hs,.inr ⟨rfl,h,by simp[m9,lX,hb1,hb2]⟩⟩
  |false=>
  cases hb3:t.2== [] with
  |true=>
   simp only[ai,ax,ay,aa,ah,h3,h94,hns,hb1,hb2,hb3];refine(fin _ _ ?_ ?_).mono ?_;simp only[aq,aa, *];simp[lX,hb1,hb2,hb3];rintro x fr s' ⟨rfl,rfl,hs,h⟩;exact⟨rfl,hs,.inr ⟨rfl,h,by simp[m9,lX,hb1,hb2,hb3]⟩⟩
  |false=>
  have hil:bG 200 (t.2.length:Nat)=decide (200<t.2.length):=im 200 _;cases hb4:decide (200<t.2.length) with
  |true=>
   simp only[ai,ax,ay,aa,ah,JH,h3,h94,hns,hb1,hb2,hb3,hil,hb4];refine(fin _ _ ?_ ?_).mono ?_;simp only[aq,aa, *];simp[lX,hb1,hb2,hb3,hb4];rintro x fr s' ⟨rfl,rfl,hs,h⟩;exact⟨rfl,hs,.inr ⟨rfl,h,by simp[m9,lX,hb1,hb2,hb3,hb4]⟩⟩
  |false=>
   simp only[ai,ax,ay,aa,ah,JH,h3,h94,hns,hb1,hb2,hb3,hil,hb4];refine dq ?_;simp only[bM];refine bH ?_;simp only[ai,ax,aA,ay,aa,ah];refine bH ?_;simp only[ai,aA,aa,ah,h8,hwr];refine(ih (pre++[t]) _ _ t.1 (by rw[hpre];simp) (by simp only[au,aa, *]) (by simp only[au,aa, *]) (by simp only[au,aa, *]) (by simp only[aq,cK,aa]) (by simp only[aq,aa, *])).mono ?_;have hbad:lX last t=false:=by simp[lX,hb1,hb2,hb3,hb4]
   simp only[m9,hbad,cF];exact fun _ _ _ h=>h
def aoM(h95:sp 164=none)(hl:aD 2 bD v l)(hk: ∀t∈l,t.1.length<small)(hsmall:l.length<small)(s:St):aM (QS sp) 164 [v] s (.bool (cY l)) s:=by
 have hlen:=fun mk s=>hl.len jw jv mk s;have hcl:=hl.aL;refine dz El.1 El.2 El.3 El.4 h95 ?_;refine aw ?_;simp only[ai,bv,bt,ah,aV];refine aw ?_;simp only[cG,Ci,ah];refine aC (aw ?_);simp only[ai,aa,ah,hcl,hlen];refine bL ?_;refine(aoL h94 hl hk hsmall l [] _ _ [] rfl (by simp only[aq,aa, *]) (by simp only[aq,aa, *]) (by simp only[aq,aa, *]) (by simp only[aq,aa];rfl) (by simp only[aq,aa, *])).mono ?_;rintro x ⟨e,sz,lc⟩ s' ⟨rfl,hs,⟨rfl,h0,hok⟩|⟨rfl,h2,hok⟩⟩;have hs:sz=39:=hs;subst hs;have h0:aj e 0=v:=h0;show W (QS sp) 164 _ _ _ _;refine aw ?_;simp only[ai,aa,ah,h0,hcl,hlen];refine bo ⟨rfl,.inr rfl,bz ?_ rfl⟩;simp only[aq,aa,cY,hok,jD];exact congrArg ae.bool (lj l.length 60);exact⟨rfl,.inr rfl,bz (by rw[h2];simp[cY,hok]) rfl⟩
end
def pz:List be->Bool
 | []=>true
 |t::l=>bk t.1.length small&&pz l
def sQ: ∀ {l:List be},pz l=true-> ∀t∈l,t.1.length<small
 | [],_,_,h=>by cases h
 |a::l,h,t,ht=>by
  simp only[pz,bA] at h;rcases cQ.1 ht with rfl|ht
  exact eG h.1;exact sQ h.2 t ht
def tT: ∀ {l:List be},(∀t∈l,t.1.length<small)->pz l=true
 | [],_=>rfl
 |a::l,h=>by
  simp only[pz,bA];exact⟨cu (h a (by simp)),tT fun t ht=>h t (by simp[ht])⟩
def sR:Sp
 | [v]=>(fF 2 oP v).bind fun l=>bif bk l.length small&&pz l then some (.bool (cY l)) else none
 |_=>none
def Vt(h:aD 2 bD v l)(h1:l.length<small)(h2: ∀t∈l,t.1.length<small):sR [v]=some (.bool (cY l)):=by
 simp only[ce,sR,i8 tg h,jU,h1,dT,tT h2,cH]
def T3:du:=(163,mV)::T2
def HZ:dc T3:=.cons ajS Nc
def Vu:cq ar 164 sR:=by
 intro args u hv G h w xs wr hx;unfold sR at hv;split at hv;rename_i v;simp only[az] at hv;obtain⟨l,h1,hv⟩:=hv;obtain⟨h2,hv⟩:=bm hv;injection hv with hv;subst hv
 simp only[bA] at h2;have hl:aD 2 bD v l:=ij (fun _ _=>rO) h1;obtain⟨ht,hw⟩:=JY Hp hl;exact eA (Q:=QT T3) (ep HZ) (fun _=>eH 1) (args:=[v]) (v:=.bool (cY l)) (s':=s0) (by simp only[jn,ht,cH])
  (aoM (sp:=fun f=>cI f T3) rfl rfl hw (sQ h2.2) (eG h2.1) s0) rfl ⟨1,rfl⟩ G h w xs wr hx
 cases hv
def jo(k:Int):ak:=bif aK k 1 then [110,111,100,101] else bif aK k 2 then [119,97,121] else bif aK k 3 then [97,114,101,97] else bif aK k 4 then [114,111,117,116,101] else bif aK k 5 then [116,117,114,110] else []
def t7:Sp
 | [.int .i64 k]=>some (.str (jo k))
 |_=>none
def aar:jT [] 100 162 [.int .i64 0]=some (.str (jo 0),0):=by kernel_rfl
def aas:jT [] 100 162 [.int .i64 1]=some (.str (jo 1),0):=by kernel_rfl
def aat:jT [] 100 162 [.int .i64 2]=some (.str (jo 2),0):=by kernel_rfl
def aau:jT [] 100 162 [.int .i64 3]=some (.str (jo 3),0):=by kernel_rfl
def aav:jT [] 100 162 [.int .i64 4]=some (.str (jo 4),0):=by kernel_rfl
def aaw:jT [] 100 162 [.int .i64 5]=some (.str (jo 5),0):=by kernel_rfl
variable{k:Int}{sp:bC}
def apT(h93:sp 162=none)(hk:k<0\/6<=k)(s:St):aM (QS sp) 162 [.int .i64 k] s (.str []) s:=by
 refine dz Ej.1 Ej.2 Ej.3 Ej.4 h93 ?_;refine aw ?_;simp only[ai,bv,bt,ah,aV];refine aw ?_;simp only[ai,ax,bu,aN,ay,aa,ah,aG,Nat.reduceMul,aV,adb,cS];refine aC (aw ?_);have fin: ∀e' lc',aj e' 10= .bool true->W (QS sp) 162 (.cond (aR 10) (.seq (.region aeL) .ret) .skip) ⟨e',14,lc'⟩ s fun x fr s'=>x= .ret/\s'=s/\aj fr.env 2= .str []:=by
  intro e' lc' h;refine dJ (t:=true) (by simp only[bq,h]) (aw ?_);simp only[cG,Ci,ah];exact bo ⟨rfl,rfl,by simp only[ik,aa, *]⟩
 cases h1:bG k 0 with
 |true=>
  simp only[ai,aa,ah,h1];refine(fin _ _ ?_).mono ?_;simp only[aq,aa, *];rintro x fr s' ⟨rfl,rfl,h⟩;exact⟨rfl,.inr rfl,bz h rfl⟩
 |false=>
  have h2:ec 6 k=true:=by
   simp only[bG,decide_eq_false_iff_not] at h1;simp only[ec,dE];omega
  simp only[ai,aa,ah,h1,h2];refine(fin _ _ ?_).mono ?_;simp only[aq,aa, *];rintro x fr s' ⟨rfl,rfl,h⟩;exact⟨rfl,.inr rfl,bz h rfl⟩
def iy{a b:Int}(h:a≠b):aK a b=false:=bN.2 h
def apS:cq ar 162 t7:=by
 intro args u hv G h w xs wr hx;unfold t7 at hv;split at hv;rename_i k;injection hv with hv;subst hv
 have hcase:(k<0\/6<=k)\/k=0\/k=1\/k=2\/k=3\/k=4\/k=5:=by omega
 rcases hcase with hk|rfl|rfl|rfl|rfl|rfl|rfl
 have hw:jo k=[]:=by
  simp only[jo,iy (show k≠1 by omega),iy (show k≠2 by omega),iy (show k≠3 by omega),iy (show k≠4 by omega),iy (show k≠5 by omega),cF]
 rw[hw];exact eA (Q:=QT []) (ep .nil) (fun _=>eH 1) (args:=[.int .i64 k]) (v:=.str []) (s':=s0) rfl (apT (sp:=fun f=>cI f []) rfl hk s0) rfl ⟨1,rfl⟩ G h w xs wr hx;exact lu .nil aar (args':=[.int .i64 0]) rfl rfl G h w xs wr hx;exact lu .nil aas (args':=[.int .i64 1]) rfl rfl G h w xs wr hx;exact lu .nil aat (args':=[.int .i64 2]) rfl rfl G h w xs wr hx;exact lu .nil aau (args':=[.int .i64 3]) rfl rfl G h w xs wr hx;exact lu .nil aav (args':=[.int .i64 4]) rfl rfl G h w xs wr hx;exact lu .nil aaw (args':=[.int .i64 5]) rfl rfl G h w xs wr hx;cases hv
def qn(k:Int):Nat:=bif aK k 2 then 2 else bif aK k 3 then 3 else bif aK k 4 then 1 else bif aK k 5 then 3 else 0
def zI:Sp
 | [.int .i64 k]=>bif ec 0 k&&bG k 6 then some (.int .i64 (qn k:Nat)) else none
 |_=>none
def aax:jT [] 100 165 [.int .i64 0]=some (.int .i64 (qn 0:Nat),0):=by kernel_rfl
def aay:jT [] 100 165 [.int .i64 1]=some (.int .i64 (qn 1:Nat),0):=by kernel_rfl
def aaz:jT [] 100 165 [.int .i64 2]=some (.int .i64 (qn 2:Nat),0):=by kernel_rfl
def aaA:jT [] 100 165 [.int .i64 3]=some (.int .i64 (qn 3:Nat),0):=by kernel_rfl
def aaB:jT [] 100 165 [.int .i64 4]=some (.int .i64 (qn 4:Nat),0):=by kernel_rfl
def aaC:jT [] 100 165 [.int .i64 5]=some (.int .i64 (qn 5:Nat),0):=by kernel_rfl
def ahL:cq ar 165 zI:=by
 intro args u hv G h w xs wr hx;unfold zI at hv;split at hv;rename_i k;obtain⟨hk,hv⟩:=bm hv;injection hv with hv;subst hv
 simp only[ec,bG,bA,dE] at hk;have hcase:k=0\/k=1\/k=2\/k=3\/k=4\/k=5:=by omega
 rcases hcase with rfl|rfl|rfl|rfl|rfl|rfl
 exact lu .nil aax (args':=[.int .i64 0]) rfl rfl G h w xs wr hx;exact lu .nil aay (args':=[.int .i64 1]) rfl rfl G h w xs wr hx;exact lu .nil aaz (args':=[.int .i64 2]) rfl rfl G h w xs wr hx;exact lu .nil aaA (args':=[.int .i64 3]) rfl rfl G h w xs wr hx;exact lu .nil aaB (args':=[.int .i64 4]) rfl rfl G h w xs wr hx;exact lu .nil aaC (args':=[.int .i64 5]) rfl rfl G h w xs wr hx;cases hv
def kM(x y:Int):Bool:=ec 0 x&&bG x 1048576&&ec 0 y&&bG y 1048576
def tI:Sp
 | [.agg [.int .i64 x,.int .i64 y]]=>some (.bool (kM x y))
 |_=>none
def akl(h99:sp 168=none)(x y:Int)(s:St):aM (QS sp) 168 [.agg [.int .i64 x,.int .i64 y]] s (.bool (kM x y)) s:=by
 refine dz Eo.1 Eo.2 Eo.3 Eo.4 h99 ?_;refine aw ?_;simp only[ai,bv,bt,ah,aV,ade];refine aw ?_;cases h1:ec 0 x with
 |false=>
  simp only[ai,ax,ay,aa,ah,h1];refine bo ⟨rfl,.inr rfl,bz ?_ rfl⟩;simp only[aq,aa, *];simp only[kM,h1,iK]
 |true=>
 cases h2:bG x 1048576 with
 |false=>
  simp only[ai,ax,ay,aa,ah,h1,h2];refine bo ⟨rfl,.inr rfl,bz ?_ rfl⟩;simp only[aq,aa, *];simp only[kM,h1,h2,ki,iK]
 |true=>
 cases h3:ec 0 y with
 |false=>
  simp only[ai,ax,ay,aa,ah,h1,h2,h3];refine bo ⟨rfl,.inr rfl,bz ?_ rfl⟩;simp only[aq,aa, *];simp only[kM,h1,h2,h3,ki,iK]
 |true=>
  simp only[ai,ax,ay,aa,ah,h1,h2,h3];refine bo ⟨rfl,.inr rfl,bz ?_ rfl⟩;simp only[aq,aa, *];simp only[kM,h1,h2,h3,jD]
def akk:cq ar 168 tI:=by
 intro args u hv G h w xs wr hx;unfold tI at hv;split at hv;rename_i x y;injection hv with hv;subst hv
 exact eA (Q:=QT []) (ep .nil) (fun _=>eH 1) (args:=[.agg [.int .i64 x,.int .i64 y]]) (v:=.bool (kM x y)) (s':=s0) rfl (akl (sp:=fun f=>cI f []) rfl x y s0) rfl ⟨1,rfl⟩ G h w xs wr hx;cases hv
def T4:du:=(162,t7)::(165,zI)::(168,tI)::(164,sR)::T3
def Nf:dc T4:=.cons apS (.cons ahL (.cons akk (.cons Vu HZ)))
def Sg(P:Program)(t:TypeId)(off:Nat):Option bf->Option ae
 |some (.cells cs)=>ey P t cs off
 |_=>none
def cO(P:Program)(mk:aW)(t:TypeId)(n off:Nat)(lc:Ag.Loc)(s:St):lR P mk t (.ptr n off) lc s=Sg P t off (s.get mk n):=by
 simp only[lR];cases s.get mk n with
 |none=>rfl
 |some o=>cases o<;>rfl
def cN(P:Program)(t:TypeId)(off:Nat)(cs:List ae):Sg P t off (some (.cells cs))=ey P t cs off:=rfl
noncomputable def Vh(lc:Ag.Loc)(s:St)(m off:Nat)(v:ae):Option bf->Option (Ag.Loc×St)
 |some (.cells cs)=>(bu cs off v.cells).bind fun cs'=>some (lc,s.put m (some (.cells cs')))
 |_=>none
def kg(P:Program)(mk:aW)(t:TypeId)(m off:Nat)(v:ae)(lc:Ag.Loc)(s:St):nL P mk t (.ptr m off) v lc s=(dZ P t).bind fun n=>bif aJ v.cells.length n&&bk 0 n then Vh lc s m off v (s.get mk m) else none:=by
 simp only[nL];cases s.get mk m with
 |none=>rfl
 |some o=>cases o<;>rfl
def kf(lc:Ag.Loc)(s:St)(m off:Nat)(v:ae)(cs:List ae):Vh lc s m off v (some (.cells cs))=(bu cs off v.cells).bind fun cs'=>some (lc,s.put m (some (.cells cs'))):=rfl
variable{fr:Fr}{N:Fr->St->Prop}{l:List aB}{args:List ae}
section
variable{Q:bF}{f:FuncId}
def fM(n:Nat)(h:WP Q f (l.take n) fr s fun fr s=>WL Q f (l.drop n) fr s N):WL Q f l fr s N:=by
 obtain⟨fr1,s1,h1,h2⟩:=h
 have:=WL.app h1 h2;rwa [List.take_append_drop] at this
def fO{d:Tmp}{x:Operand}{av:Array Operand}{ts:Array TypeId}{e:aI}{sz:Nat}{lc:Ag.Loc}{s1:St}{g:FuncId}(hc:callee e ⟨.value x,av,ts⟩=some (g,args))(hr:aM Q g args s v s1)(hd:d<sz)(hk:WL Q f l ⟨e.set d (some v),sz,lc⟩ s1 N):
 WL Q f (⟨some d,.call ⟨.value x,av,ts⟩,.aw⟩::l) ⟨e,sz,lc⟩ s N:=
 WL.call rfl rfl (fun b=>by simp) hc hr (eM.2 ⟨hd,rfl⟩) hk
def fN(h:WP Q f l fr s N):WL Q f l fr s N:=let⟨_,_,h1,h2⟩:=h;WL.run h1 h2
end
structure Obj where
 id:ak
 uP:Int
 x:Int
 y:Int
 refsV:ae
 tagsV:ae
 gE:List ak
 gT:List be
def Obj.cells(o:Obj):List ae:=[.str o.id,.int .i64 o.uP,.int .i64 o.x,.int .i64 o.y,o.refsV,o.tagsV]
def Obj.val(o:Obj):ae:=.agg o.cells
structure Obj.Ok (o:Obj):Prop where
 gE:aD 1 aF o.refsV o.gE
 gT:aD 2 bD o.tagsV o.gT
 id:o.id.length<small
 reflen:o.gE.length<small
 ref: ∀r∈o.gE,r.length<small
 taglen:o.gT.length<small
 key: ∀t∈o.gT,t.1.length<small
def j9(ks:List ak):List (ak×ae):=ks.map fun k=>(k,.bool true)
def Su(k:ak): ∀ks,look k (j9 ks)=bif ks.contains k then some (.bool true) else none
 | []=>rfl
 |a::ks=>by
  have ih:=Su k ks;simp only[j9,dG,look,List.contains_cons] at ih ⊢;rw[ih];cases k==a<;>simp
def Sv(k:ak)(ks:List ak):(look k (j9 ks)).getD (.bool false)= .bool (ks.contains k):=by
 rw[Su];cases ks.contains k<;>rfl
def lH(k:ak)(ks:List ak):List ak:=bif ks.contains k then ks else ks++[k]
def JW(k:ak): ∀ks,dY k (.bool true) (j9 ks)=j9 (lH k ks)
 | []=>rfl
 |a::ks=>by
  have ih:=JW k ks;simp only[j9,dG,dY,lH,List.contains_cons] at ih ⊢;cases h:k==a with
  |true=>
   have:k=a:=by simpa using h
   subst this;simp
  |false=>
   simp only[cF,jd,ih];cases ks.contains k<;>simp
def wW(uP:Int)(last:ak)(seen:List ak)(r:ak):Bool:=((aK uP 2&&(r==last))||(aK uP 3&&seen.contains r))|| !gj r
structure ni (s:St) (o:Obj) (po pl ps m:Nat) (last:ak) (seen:List ak):Prop where
 ho:s.get [] po=some (.cells o.cells)
 hl:s.get [] pl=some (.cells [.str last])
 hs:s.get [] ps=some (.cells [.map m])
 hm:s.get [] m=some (.map (bX 0 (j9 seen)) (j9 seen).length)
 d1:(pl==m)=false
 d2:(po==m)=false
 d3:(po==pl)=false
 d4:(ps==m)=false
 d5:(ps==pl)=false
 d6:(m==pl)=false
noncomputable def ni.al(s:St)(pl m:Nat)(seen:List ak)(r:ak):St:=(s.put m (some (.map (bX 0 (j9 (lH r seen))) (j9 (lH r seen)).length))).put pl (some (.cells [.str r]))
variable{seen:List ak}{pl po ps:Nat}{o:Obj}{last:ak}
def ni.after(c:ni s o po pl ps m last seen)(r:ak):ni (ni.al s pl m seen r) o po pl ps m r (lH r seen):=by
 refine⟨?_,?_,?_,?_,c.d1,c.d2,c.d3,c.d4,c.d5,c.d6⟩<;>simp only[cz,ni.al,bO,c.d1,c.d2,c.d3,c.d4,c.d5,c.d6,bS,c.ho,c.hs]
section
variable{sp:bC}(h94:sp 163=some mV)
include h94
def ap9(h97:sp 166=none)(c:ni s o po pl ps m last seen){r:ak}(hr:r.length<small):
 aM (QS sp) 166 [.str r,.ptr po 0,.ptr pl 0,.ptr ps 0] s (.bool (wW o.uP last seen r)) (ni.al s pl m seen r):=by
 have hns:=yd hr;have hlk:=F5 tn Gl Wd c.hm r;rw[Sv] at hlk;have hup:=AC tn Gl c.hm r (.bool true);rw[JW] at hup;have ho:=c.ho;have hl:=c.hl;have hs:=c.hs;have d1:=c.d1;refine dz Em.1 Em.2 Em.3 Em.4 h97 ?_;refine aw ?_;simp only[ai,bv,bt,ah,aG,aV];refine aw ?_;have two: ∀e b,aj e 0= .str r->aj e 1= .ptr po 0->aj e 2= .ptr pl 0->aj e 3= .ptr ps 0->aj e 6= .bool b->b=((aK o.uP 2&&(r==last))||(aK o.uP 3&&seen.contains r))->W (QS sp) 166 (.seq (.region aeR) (.seq (.region aeS) .ret)) ⟨e,34,[]⟩ s fun x fr' s1=>s1=ni.al s pl m seen r/\(x= .normal\/x= .ret)/\ ∃vs,bW (QS sp) [] fr' s1 [.tmp 5]=some vs/\gG vs= .bool (wW o.uP last seen r):=by
  intro e b h0 h1 h2 h3 h6 hb;refine aw ?_;simp only[ai,ax,bu,aN,ay,aa,ah,aV,cO,cN,kg,kf,bO,h0,h2,h3,hs,hl,hup,d1];refine aw ?_;cases b with
  |true=>
   simp only[ai,aa,ah,h6];refine bo ⟨rfl,.inr rfl,bz ?_ rfl⟩;simp only[aq,aa, *];simp only[wW,<-hb,jM]
  |false=>
   simp only[ai,aa,ah,h0,h6,h94,hns];refine bo ⟨rfl,.inr rfl,bz ?_ rfl⟩;simp only[aq,aa, *];simp only[wW,<-hb,jd]
 cases hk2:aK o.uP 2 with
 |true=>
  cases he:r==last with
  |true=>
   simp only[ai,ax,ay,aa,ah,cO,cN,ho,hl,Obj.cells,hk2,he];refine two _ true ?_ ?_ ?_ ?_ ?_ (by simp only[hk2,he,cH,jM])<;>simp only[aq,aa, *]
  |false=>
   cases hk3:aK o.uP 3 with
   |true=>
    simp only[ai,ax,ay,aa,ah,cO,cN,ho,hs,hl,Obj.cells,hk2,he,hk3,hlk];refine two _ (seen.contains r) ?_ ?_ ?_ ?_ ?_ (by simp only[hk2,he,hk3,ki,jd,jD])<;>simp only[aq,aa, *]
   |false=>
    simp only[ai,ax,ay,aa,ah,cO,cN,ho,hl,Obj.cells,hk2,he,hk3];refine two _ false ?_ ?_ ?_ ?_ ?_ (by simp only[hk2,he,hk3,ki,jd,iK])<;>simp only[aq,aa, *]
 |false=>
  cases hk3:aK o.uP 3 with
  |true=>
   simp only[ai,ax,ay,aa,ah,cO,cN,ho,hs,Obj.cells,hk2,hk3,hlk];refine two _ (seen.contains r) ?_ ?_ ?_ ?_ ?_ (by simp only[hk2,hk3,iK,jd,jD])<;>simp only[aq,aa, *]
  |false=>
   simp only[ai,ax,ay,aa,ah,cO,cN,ho,Obj.cells,hk2,hk3];refine two _ false ?_ ?_ ?_ ?_ ?_ (by simp only[hk2,hk3,jd,iK])<;>simp only[aq,aa, *]
end
def aM.ofEx{Q:bF}{f:FuncId}{fn:Func}{sc:SC}{rs:List ResultVar}{R:ae->St->Prop}(hf:Q.P.funcs[f]? =some fn)(hc:fn.body.map fP=some sc)(hn:fn.ntmps=n)(hr:fn.results.toList=rs)(hsp:Q.spec f=none)(h:W Q f sc (bv n args) s fun x fr' s1=>(x= .normal\/x= .ret)/\ ∃v,(∃vs,bW Q [] fr' s1 rs=some vs/\gG vs=v)/\R v s1)(hH:Q.specH f=none:=by rfl)(hW:Q.specW f=none:=by rfl): ∃v s',aM Q f args s v s'/\R v s':=by
 obtain⟨x,fr',s1,h1,h2,v,h3,h4⟩:=h;exact⟨v,s1,dz hf hc hn hr hsp ⟨x,fr',s1,h1,rfl,h2,h3⟩ hH hW,h4⟩
def nk(uP:Int):ak->List ak->List ak->Bool
 |_,_,[]=>false
 |last,seen,r::rs=>wW uP last seen r||nk uP r (lH r seen) rs
def zg(po pl ps:Nat):ae:=.func (.func 166) [] [.ptr po 0,.ptr pl 0,.ptr ps 0]
def Ot(po pl ps:Nat):(zg po pl ps).aL=true:=rfl
variable{l:List ak}
section
variable{sp:bC}(h94:sp 163=some mV)(h97:sp 166=none)
include h94 h97
def adI(hl:aD 1 aF v l)(hk: ∀r∈l,r.length<small)(hsmall:l.length<small): ∀(rest pre:List ak) (e:aI) (lc:Ag.Loc) (s:St) (last:ak) (seen:List ak),l=pre++rest->ni s o po pl ps m last seen->
 aj e 0=v->aj e 1=zg po pl ps->aj e 7= .int .i64 (l.length:Nat)->aj e 8= .int .i64 (pre.length:Nat)->
 W (QS sp) 261 (.loop afI) ⟨e,19,lc⟩ s fun x fr s'=>(∃last' seen',ni s' o po pl ps m last' seen')/\s'.ci=s.ci/\fr.size=19/\((x= .exit 0/\nk o.uP last seen rest=false)\/(x= .ret/\(∃i:Nat,aj fr.env 4= .int .i64 (i:Int))/\nk o.uP last seen rest=true)):=by
 intro rest
 induction rest with
 |nil=>
  intro pre e lc s last seen hpre c h0 h1 h7 h8;have hlen:l.length=pre.length:=by rw[hpre];simp
  refine bV ?_;refine aw ?_;simp only[ai,ah,h7,h8,hlen,cR];refine aC (cJ ?_);exact dL ⟨⟨last,seen,c⟩,rfl,rfl,.inl ⟨rfl,rfl⟩⟩
 |cons r rest ih=>
  intro pre e lc s last seen hpre c h0 h1 h7 h8;have hlt:pre.length<l.length:=by rw[hpre];simp
  have hat:l[pre.length]? =some r:=by rw[hpre];simp
  have hia:=fun lc=>hl.at gR hat lc .i64;have hcl:=hl.aL;have hr:=hk r (ku hat);have hsm:=fg;have hwr:=eE (n:=pre.length) (by omega);refine bV ?_;refine aw ?_;simp only[ai,ah,h7,h8,hlt];refine aC (bU (cL ?_));refine aC (bL ?_);refine aw ?_;simp only[ai,aa,ah,h8];refine aC (fU (fM 5 ?_));simp only[ai,ax,aN,ay,aa,ah,h0,h1,hia,aF];refine fO (g:=166) (args:=[.str r,.ptr po 0,.ptr pl 0,.ptr ps 0]) ?_ (ap9 h94 h97 c hr) (by decide) ?_;simp only[ai,callee,zg,aa];refine fN ?_;simp only[nV,bM];cases hw:wW o.uP last seen r with
  |true=>
   refine bU (aw ?_);simp only[ai,aa,ah];refine bo ⟨⟨_,_,c.after r⟩,rfl,rfl,.inr ⟨rfl,⟨pre.length,?_⟩,by simp[nk,hw]⟩⟩;simp only[aq,aa, *]
  |false=>
   refine dq ?_;simp only[dA];refine bH ?_;simp only[ai,aA,aa,ah,h8,hwr];refine(ih (pre++[r]) _ _ _ r (lH r seen) (by rw[hpre];simp) (c.after r) (by simp only[au,aa, *]) (by simp only[au,aa, *]) (by simp only[au,aa, *]) (by simp only[aq,cK,aa])).mono ?_;simp only[nk,hw,jd];exact fun _ _ _ h=>h
def adJ(h157:sp 261=none)(hl:aD 1 aF v l)(hk: ∀r∈l,r.length<small)(hsmall:l.length<small)(c:ni s o po pl ps m last seen):
 ∃u s',aM (QS sp) 261 [v,zg po pl ps] s u s'/\((∃last' seen',ni s' o po pl ps m last' seen')/\s'.ci=s.ci/\ ∃z:Int,u= .int .i64 z/\ec 0 z=nk o.uP last seen l):=by
 have hlen:=fun mk s=>hl.len dB dH mk s;have hcl:=hl.aL;refine aM.ofEx EV.1 EV.2 EV.3 EV.4 h157 ?_;refine aw ?_;simp only[ai,bv,bt,ah,aG,aV];refine aC (aw ?_);simp only[ai,aa,ah,hcl,hlen];refine bL ?_;refine(adI h94 h97 hl hk hsmall l [] _ _ s last seen rfl c (by simp only[aq,aa, *]) (by simp only[aq,aa, *]) (by simp only[aq,aa, *]) (by simp only[aq,aa];rfl)).mono ?_;rintro x ⟨e,sz,lc⟩ s' ⟨hc,hci,hs,⟨rfl,hok⟩|⟨rfl,⟨i,h4⟩,hok⟩⟩;have hs:sz=19:=hs;subst hs;show W (QS sp) 261 _ _ _ _;refine aw ?_;simp only[cG,hQ,ah];refine bo ⟨.inr rfl,.int .i64 (-1),bz ?_ rfl,hc,hci, -1,rfl,by rw[hok];rfl⟩;simp only[ik,aa, *];exact⟨.inr rfl,.int .i64 i,bz h4 rfl,hc,hci,i,rfl,by rw[hok];simp[ec]⟩
def acZ(h157:sp 261=none)(h98:sp 167=none)(hl:aD 1 aF v l)(hk: ∀r∈l,r.length<small)(hsmall:l.length<small)(c:ni s o po pl ps m last seen):
 ∃u s',aM (QS sp) 167 [v,zg po pl ps] s u s'/\((∃last' seen',ni s' o po pl ps m last' seen')/\s'.ci=s.ci/\u= .bool (nk o.uP last seen l)):=by
 obtain⟨u,s1,hr,hc,hci,z,rfl,hz⟩:=adJ h94 h97 h157 hl hk hsmall c;have hcl:=hl.aL;refine aM.ofEx En.1 En.2 En.3 En.4 h98 ?_;refine aw ?_;simp only[ai,bv,bt,ah,aG,aV];refine aC (fU (fM 2 ?_));simp only[ai,aN,ay,aa,ah];refine fO (g:=261) ?_ hr (by decide) ?_;simp only[ai,callee,hcl,Ot,aa];refine fN ?_;simp only[ai,aA,aa,ah,hz];refine bo ⟨.inr rfl,_,bz (v:=.bool (nk o.uP last seen l)) ?_ rfl,hc,hci,rfl⟩;simp only[aq,aa, *]
end
def kI(o:Obj):Bool:=(jo o.uP== [])|| !gj o.id|| !cY o.gT||decide (o.gE.length<qn o.uP)||decide (2000<o.gE.length)
def t8(o:Obj):Bool:=aK o.x 0&&aK o.y 0
def ef(o:Obj):Bool:=bif kI o then false else bif nk o.uP [] [] o.gE then false else bif aK o.uP 1 then(o.gE.length==0)&&kM o.x o.y else bif aK o.uP 5 then(o.gE.length==3)&&t8 o else t8 o
def NL(P:Program)(t:TypeId)(a b:List ae):d8 P .eql t (.agg a) (.agg b)=(rX P t (.agg a) (.agg b)).bind fun b=>some (.bool b):=rfl
def Il(P:Program)(t:TypeId)(a b:List ae):d8 P .neq t (.agg a) (.agg b)=(rX P t (.agg a) (.agg b)).bind fun b=>some (.bool !b):=rfl
def mG(a b c d:Int):d8 ar .eql 49 (.agg [.int .i64 a,.int .i64 b]) (.agg [.int .i64 c,.int .i64 d])=some (.bool (bif aK a c then bif aK b d then true else false else false)):=by
 have h:rX ar 49 (.agg [.int .i64 a,.int .i64 b]) (.agg [.int .i64 c,.int .i64 d])=(some (aK a c)).bind fun r=>bif r then(some (aK b d)).bind fun r=>bif r then some true else some false else some false:=by kernel_rfl
 rw[NL,h];cases aK a c<;>cases aK b d<;>rfl
def Ua(a b:Int):(bif aK a 0 then bif aK b 0 then true else false else false)=(aK a 0&&aK b 0):=by
 cases aK a 0<;>cases aK b 0<;>rfl
def V3(h:(jo k== [])=false):(ec 0 k&&bG k 6)=true:=by
 by_cases h1:0<=k/\k<6;simp[ec,bG,h1.1,h1.2];have hw:jo k=[]:=by
  simp only[jo,iy (show k≠1 by omega),iy (show k≠2 by omega),iy (show k≠3 by omega),iy (show k≠4 by omega),iy (show k≠5 by omega),cF]
 rw[hw] at h;cases h
def zB(s:St)(mk:aW)(n:Nat):s.top.get mk n=s.get mk n:=rfl
def ahK(h:(ec 0 k&&bG k 6)=true):zI [.int .i64 k]=some (.int .i64 (qn k:Nat)):=by
 simp only[zI,h,cT]
section
variable{sp:bC}(h93:sp 162=some t7)(h94:sp 163=some mV)(h95:sp 164=some sR)(h96:sp 165=some zI)(h99:sp 168=some tI)(h97:sp 166=none)(h98:sp 167=none)(h157:sp 261=none)
include h93 h94 h95 h96 h99 h97 h98 h157
def akd(h48:sp 75=none)(ho:o.Ok): ∃v s',aM (QS sp) 75 [o.val] s0 v s'/\(v= .bool (ef o)/\s'.ci=0):=by
 have hns:=yd ho.id;have hts:=Vt ho.gT ho.taglen ho.key;have hws:t7 [.int .i64 o.uP]=some (.str (jo o.uP)):=rfl;have hlen:=fun mk s=>ho.gE.len dB dH mk s;have hcr:=ho.gE.aL;have hct:=ho.gT.aL;refine aM.ofEx FS.1 FS.2 FS.3 FS.4 h48 ?_;refine aw ?_;simp only[ai,bv,bt,ah,aV,JM,Obj.val];have hn0:s0.al=0:=rfl;have hs1: ∃s1,s0.new (.cells o.cells)=s1/\s1.get [] 0=some (.cells o.cells)/\s1.ge<=s1.al/\s1.al=1/\s1.ci=0:=⟨_,rfl,by rw[cp];rfl,Nat.zero_le _,rfl,rfl⟩;obtain⟨s1,e1,g1,m1,n1,c1⟩:=hs1;rw[e1,hn0];refine aC (lD m1 ?_);have fin: ∀e lc,aj e 36= .bool true->W (QS sp) 75 (.cond (aR 36) (.seq (.region ahr) .ret) .skip) ⟨e,72,lc⟩ s1 fun x fr s'=>x= .ret/\s'=s1/\aj fr.env 2= .bool false:=by
  intro e lc h;refine dJ (t:=true) (by simp only[bq,h]) (aw ?_);simp only[cG,gV,ah];exact bo ⟨rfl,rfl,by simp only[ik,aa, *]⟩
 cases hb1:jo o.uP== [] with
 |true=>
  simp only[ai,ax,isStore,ay,aa,ah,cO,cN,zB,g1,Obj.cells,h93,hws,hb1];refine(fin _ _ ?_).mono ?_;simp only[aq,aa, *];rintro x fr s' ⟨rfl,rfl,h⟩;exact⟨.inr rfl,_,bz h rfl,by simp[ef,kI,hb1],c1⟩
 |false=>
 have hk:=V3 hb1;have hls:=ahK hk;cases hb2:gj o.id with
 |false=>
  simp only[ai,ax,isStore,ay,aa,ah,cO,cN,zB,g1,Obj.cells,h93,hws,hb1,h94,hns,hb2];refine(fin _ _ ?_).mono ?_;simp only[aq,aa, *];rintro x fr s' ⟨rfl,rfl,h⟩;exact⟨.inr rfl,_,bz h rfl,by simp[ef,kI,hb2],c1⟩
 |true=>
 cases hb3:cY o.gT with
 |false=>
  simp only[ai,ax,isStore,ay,aa,ah,cO,cN,zB,g1,Obj.cells,h93,hws,hb1,h94,hns,hb2,h95,hts,hct,hb3];refine(fin _ _ ?_).mono ?_;simp only[aq,aa, *];rintro x fr s' ⟨rfl,rfl,h⟩;exact⟨.inr rfl,_,bz h rfl,by simp[ef,kI,hb3],c1⟩
 |true=>
 cases hb4:decide (o.gE.length<qn o.uP) with
 |true=>
  simp only[ai,ax,isStore,ay,aa,ah,cO,cN,zB,g1,Obj.cells,h93,hws,hb1,h94,hns,hb2,h95,hts,hct,hb3,hcr,hlen,h96,hls,hb4];refine(fin _ _ ?_).mono ?_;simp only[aq,aa, *];rintro x fr s' ⟨rfl,rfl,h⟩;exact⟨.inr rfl,_,bz h rfl,by simp[ef,kI,hb4],c1⟩
 |false=>
 have hil:bG 2000 (o.gE.length:Nat)=decide (2000<o.gE.length):=im 2000 _;cases hb5:decide (2000<o.gE.length) with
 |true=>
  simp only[ai,ax,isStore,ay,aa,ah,cO,cN,zB,g1,Obj.cells,h93,hws,hb1,h94,hns,hb2,h95,hts,hct,hb3,hcr,hlen,h96,hls,hb4,hil,hb5];refine(fin _ _ ?_).mono ?_;simp only[aq,aa, *];rintro x fr s' ⟨rfl,rfl,h⟩;exact⟨.inr rfl,_,bz h rfl,by simp[ef,kI,hb5],c1⟩
 |false=>
 have hgood:kI o=false:=by simp only[kI,hb1,hb2,hb3,hb4,hb5];rfl
 simp only[ai,ax,isStore,ay,aa,ah,cO,cN,zB,g1,Obj.cells,h93,hws,hb1,h94,hns,hb2,h95,hts,hct,hb3,hcr,hlen,h96,hls,hb4,hil,hb5];refine dq ?_;simp only[bM];refine aw ?_;simp only[ai,ax,bu,aN,ay,aa,ah,aG,aV,JM,oh,kg,cp,jy,n1,kf,ae.cells];refine aw ?_;simp only[ai,ax,bu,aN,ay,aa,ah,aG,aV,JM,kg,cp,bO,jy,sq,n1,kf];refine aw ?_;simp only[ai,aa,ah,si];have hs2: ∃s2,((((s1.new (.map [] 0)).new (.cells [.nilm])).put 2 (some (.cells [.map 1]))).new (.cells [.str []])).put 3 (some (.cells [.str []]))=s2/\ni s2 o 0 3 2 1 [] []/\s2.ci=0:=by
  refine⟨_,rfl,⟨?_,?_,?_,?_,rfl,rfl,rfl,rfl,rfl,rfl⟩,c1⟩<;>simp only[cz,cp,bO,jy,sq,n1,g1,aa,aG]<;>rfl
 obtain⟨s2,e2,hclo,c2⟩:=hs2;rw[e2];obtain⟨u,s3,hr,⟨last3,seen3,c3⟩,hci3,rfl⟩:=acZ h94 h97 h157 h98 ho.gE ho.ref ho.reflen hclo;have g2:=hclo.ho;have g3:=c3.ho;have hci3:s3.ci=0:=hci3.trans c2;have harg:ae.func (.func 166) [] [.ptr 0 0,.ptr 3 0,.ptr 2 0]=zg 0 3 2:=rfl;rw[harg];refine aC (aC (fU (fM 3 ?_)));simp only[ai,ax,aN,ay,aa,ah,cO,cN,g2,Obj.cells];refine fO (g:=167) ?_ hr (by decide) ?_;simp only[ai,hcr,Ot,aa];refine fN ?_;simp only[nV,bM];cases hw:nk o.uP [] [] o.gE with
 |true=>
  refine bU (aw ?_);simp only[cG,gV,ah];refine bo ⟨.inr rfl,_,bz (v:=.bool false) ?_ rfl,?_,hci3⟩;simp only[aq,aa, *];simp[ef,hgood,hw]
 |false=>
 refine dq ?_;simp only[bM];refine aC (aw ?_);simp only[ai,ax,ay,aa,ah,cO,cN,g3,Obj.cells];refine bL (aw ?_);simp only[ai,aa,ah];have e0:aK (o.gE.length:Int) 0=(o.gE.length==0):=o8 _ 0;have e3:aK (o.gE.length:Int) 3=(o.gE.length==3):=o8 _ 3;cases hk1:aK o.uP 1 with
 |true=>
  refine bU (aw ?_);have hon:tI [.agg [.int .i64 o.x,.int .i64 o.y]]=some (.bool (kM o.x o.y)):=rfl;cases hz:o.gE.length==0 with
  |true=>
   simp only[ai,ax,cut,aN,ay,aa,ah,aG,cO,cN,g3,Obj.cells,hcr,hlen,e0,hz,h99,hon];refine bo ⟨.inr rfl,_,bz (v:=.bool (kM o.x o.y)) ?_ rfl,?_,hci3⟩;simp only[aq,aa, *];simp[ef,hgood,hw,hk1,hz]
  |false=>
   simp only[ai,ax,ay,aa,ah,cO,cN,g3,Obj.cells,hcr,hlen,e0,hz];refine bo ⟨.inr rfl,_,bz (v:=.bool false) ?_ rfl,?_,hci3⟩;simp only[aq,aa, *];simp[ef,hgood,hw,hk1,hz]
 |false=>
  refine cJ (aw ?_);simp only[ai,aa,ah];cases hk5:aK o.uP 5 with
  |true=>
   refine bU (aw ?_);cases hz:o.gE.length==3 with
   |true=>
    simp only[ai,ax,cut,aN,ay,aa,ah,aG,cO,cN,g3,Obj.cells,hcr,hlen,e3,hz,cS,mG,Ua];refine bo ⟨.inr rfl,_,bz (v:=.bool (aK o.x 0&&aK o.y 0)) ?_ rfl,?_,hci3⟩;simp only[aq,aa, *];simp[ef,hgood,hw,hk1,hk5,hz,t8]
   |false=>
    simp only[ai,ax,ay,aa,ah,cO,cN,g3,Obj.cells,hcr,hlen,e3,hz];refine bo ⟨.inr rfl,_,bz (v:=.bool false) ?_ rfl,?_,hci3⟩;simp only[aq,aa, *];simp[ef,hgood,hw,hk1,hk5,hz]
  |false=>
   refine dq ?_;simp only[dA];refine aw ?_;simp only[ai,ax,cut,aN,ay,aa,ah,aG,cO,cN,g3,Obj.cells,cS,mG,Ua];refine bo ⟨.inr rfl,_,bz (v:=.bool (aK o.x 0&&aK o.y 0)) ?_ rfl,?_,hci3⟩;simp only[aq,aa, *];simp[ef,hgood,hw,hk1,hk5,t8]
end
def Ax:List ak->Bool
 | []=>true
 |t::l=>bk t.length small&&Ax l
def UW: ∀ {l:List ak},Ax l=true-> ∀t∈l,t.length<small
 | [],_,_,h=>by cases h
 |a::l,h,t,ht=>by
  simp only[Ax,bA] at h;rcases cQ.1 ht with rfl|ht
  exact eG h.1;exact UW h.2 t ht
def UX: ∀ {l:List ak},(∀t∈l,t.length<small)->Ax l=true
 | [],_=>rfl
 |a::l,h=>by
  simp only[Ax,bA];exact⟨cu (h a (by simp)),UX fun t ht=>h t (by simp[ht])⟩
def Gi(id:ak)(k x y:Int)(rv tv:ae)(rs:List ak)(ts:List be):Option Obj:=
 bif aQ rv&&aQ tv&&bk id.length small&&bk rs.length small&&Ax rs&&bk ts.length small&&pz ts then some ⟨id,k,x,y,rv,tv,rs,ts⟩ else none
def iL:ae->Option Obj
 | .agg [.str id,.int .i64 k,.int .i64 x,.int .i64 y,rv,tv]=>(fF 1 mS rv).bind fun rs=>(fF 2 oP tv).bind fun ts=>Gi id k x y rv tv rs ts
 |_=>none
structure Obj.Al (o:Obj):Prop extends o.Ok where
 pr:aQ o.refsV=true
 pt:aQ o.tagsV=true
def lf(h:iL v=some o):v=o.val/\o.Al:=by
 unfold iL at h;split at h;simp only[az] at h;obtain⟨rs,h1,ts,h2,h⟩:=h;unfold Gi at h;obtain⟨h3,h⟩:=bm h;simp only[bA] at h3;obtain⟨⟨⟨⟨⟨⟨p1,p2⟩,p3⟩,p4⟩,p5⟩,p6⟩,p7⟩:=h3;injection h with h
 subst h;exact⟨rfl,⟨⟨ij (fun v a=>pZ) h1,ij (fun v a=>rO) h2,eG p3,eG p4,UW p5,eG p6,sQ p7⟩,p1,p2⟩⟩;cases h
def mm(h:o.Al):iL o.val=some o:=by
 show((fF 1 mS o.refsV).bind fun rs=>(fF 2 oP o.tagsV).bind fun ts=>Gi o.id o.uP o.x o.y o.refsV o.tagsV rs ts)=_;rw[i8 p8 h.gE,bn,i8 tg h.gT,bn];unfold Gi;have q1:bk o.id.length small=true:=cu h.id;have q2:bk o.gE.length small=true:=cu h.reflen;have q3:bk o.gT.length small=true:=cu h.taglen;rw[h.pr,h.pt,q1,q2,q3,UX h.ref,tT h.key];rfl
def Obj.Al.pure(h:o.Al):aQ o.val=true:=by
 simp only[Obj.val,Obj.cells,aQ,pures,h.pr,h.pt,cH]
mutual
def ao2: ∀ {v:ae},aQ v=true->ie v=true
 | .agg cs,h=>by simp only[ie];exact kh (by simpa only[aQ] using h)
 | .tup cs,h=>by simp only[ie];exact kh (by simpa only[aQ] using h)
 | .list _ xs r,h=>by
   simp only[aQ,bA] at h;simp only[ie];exact h.1
 | .bool _,_=>rfl
 | .int _ _,_=>rfl
 | .str _,_=>rfl
 | .nilp,_=>rfl
 | .ptr _ _,h=>by simp[aQ] at h
 | .Ge _ _ _,h=>by simp[aQ] at h
 | .ro cs,h=>by simpa only[ie] using h
 | .AL,_=>rfl
 | .arr _ _ _ _ _,h=>by simp[aQ] at h
 | .nilm,_=>rfl
 | .map _,h=>by simp[aQ] at h
 | .nilf,_=>rfl
 | .func _ _ _,h=>by simpa only[ie] using h
 | .nili,_=>rfl
 | .iface _ _,h=>by simpa only[ie] using h
def kh: ∀ {l:List ae},pures l=true->jn l=true
 | [],_=>rfl
 |v::l,h=>by
  simp only[pures,bA] at h;simp only[jn,ao2 h.1,kh h.2,cH]
end
def ve:Sp
 | [v]=>(iL v).bind fun o=>some (.bool (ef o))
 |_=>none
def Tf(h:o.Al):ve [o.val]=some (.bool (ef o)):=by
 show(iL o.val).bind _=_;rw[mm h];rfl
def Tg:cq ar 75 ve:=by
 intro args u hv G h w xs wr hx;unfold ve at hv;split at hv;rename_i v;simp only[az,aP] at hv;obtain⟨o,ho,rfl⟩:=hv;obtain⟨rfl,hg⟩:=lf ho;obtain⟨v,s',hr,rfl,hci⟩:=akd (sp:=fun f=>cI f T4) rfl rfl rfl rfl rfl rfl rfl rfl rfl hg.toOk;have hw:ej [o.val]=[o.val]:=gK (by simp only[pures,hg.pure,cH]);refine eA (Q:=QT T4) (ep Nf) (fun _=>eH 1) (args:=[o.val]) (v:=.bool (ef o)) (s':=s') ?_ (by rw[hw];exact hr) hci ⟨1,rfl⟩ G h w xs wr hx;exact kh (by simp only[pures,hg.pure,cH]);cases hv
def mX:ak->List Obj->Bool
 |_,[]=>true
 |last,o::r=>bif !ef o||Ag.leBytes o.id last then false else mX o.id r
def gU(l:List Obj):Bool:=mX [] l&&decide (l.length<=1000000)
variable{l:List Obj}
section
variable{sp:bC}(h48:sp 75=some ve)
include h48
def aiQ(hl:aD 6 Obj.val v l)(hk: ∀o∈l,o.Al)(hsmall:l.length<small): ∀(rest pre:List Obj) (e:aI) (lc:Ag.Loc) (last:ak),l=pre++rest->
 aj e 1= .Ge 1 1 0->lc.gen 1=1->lc.get 1 1=some [v]->aj e 7=v->aj e 8= .int .i64 (l.length:Nat)->aj e 9= .int .i64 (pre.length:Nat)->aj e 3= .str last->
 W (QS sp) 31 (.loop ago) ⟨e,29,lc⟩ s fun x fr s'=>s'=s/\fr.size=29/\((x= .exit 0/\aj fr.env 1= .Ge 1 1 0/\fr.loc.gen 1=1/\fr.loc.get 1 1=some [v]/\mX last rest=true)\/(x= .ret/\aj fr.env 2= .bool false/\mX last rest=false)):=by
 intro rest
 induction rest with
 |nil=>
  intro pre e lc last hpre h1 hg hb h7 h8 h9 h3;have hlen:l.length=pre.length:=by rw[hpre];simp
  refine bV ?_;refine aw ?_;simp only[ai,ah,h8,h9,hlen,cR];refine aC (cJ ?_);refine dL ⟨rfl,rfl,.inl ⟨rfl,?_,hg,hb,rfl⟩⟩;simp only[au,aa, *]
 |cons o rest ih=>
  intro pre e lc last hpre h1 hg hb h7 h8 h9 h3;have hlt:pre.length<l.length:=by rw[hpre];simp
  have hat:l[pre.length]? =some o:=by rw[hpre];simp
  have hia:=fun lc=>hl.at o7 hat lc .i64;have hcl:=hl.aL;have hos:=Tf (hk o (ku hat));have hsm:=fg;have hwr:=eE (n:=pre.length) (by omega);simp only[Obj.val,Obj.cells] at hos;refine bV ?_;refine aw ?_;simp only[ai,ah,h8,h9,hlt];refine aC (bU (cL ?_));simp only[bM];refine aC (bL ?_);refine aw ?_;simp only[ai,ax,cut,bu,aN,ay,aa,ah,aG,aV,PL,h7,h9,hia,Obj.val,Obj.cells];refine aC (aw ?_);have fin: ∀e' lc',aj e' 21= .bool true->W (QS sp) 31 (.cond (aR 21) (.seq (.region agp) .ret) .skip) ⟨e',29,lc'⟩ s fun x fr s'=>x= .ret/\s'=s/\fr.size=29/\aj fr.env 2= .bool false:=by
   intro e' lc' h;refine dJ (t:=true) (by simp only[bq,h]) (aw ?_);simp only[cG,gV,ah];exact bo ⟨rfl,rfl,rfl,by simp only[ik,aa, *]⟩
  cases hb1:ef o with
  |false=>
   simp only[ai,ax,cut,aN,ay,aa,ah,aG,h48,hos,hb1];refine(fin _ _ ?_).mono ?_;simp only[aq,aa, *];rintro x fr s' ⟨rfl,rfl,hs,h⟩;exact⟨rfl,hs,.inr ⟨rfl,h,by simp[mX,hb1]⟩⟩
  |true=>
  cases hb2:Ag.leBytes o.id last with
  |true=>
   simp only[ai,ax,cut,aN,ay,aa,ah,aG,h48,hos,hb1,hb2,h3];refine(fin _ _ ?_).mono ?_;simp only[aq,aa, *];rintro x fr s' ⟨rfl,rfl,hs,h⟩;exact⟨rfl,hs,.inr ⟨rfl,h,by simp[mX,hb2]⟩⟩
  |false=>
   simp only[ai,ax,cut,aN,ay,aa,ah,aG,h48,hos,hb1,hb2,h3];refine dq ?_;simp only[bM];refine bH ?_;simp only[ai,ax,aA,ay,aa,ah];refine bH ?_;simp only[ai,aA,aa,ah,h9,hwr];refine(ih (pre++[o]) _ _ o.id (by rw[hpre];simp) (by simp only[au,aa, *]) (by simp only[eZ,aa,cF,hg]) (by simp only[ew,aa,cF,hb]) (by simp only[au,aa, *]) (by simp only[au,aa, *]) (by simp only[aq,cK,aa]) (by simp only[aq,aa, *])).mono ?_;simp only[mX,hb1,hb2,dS,jd,cF];exact fun _ _ _ h=>h
def aiT(h23:sp 31=none)(hl:aD 6 Obj.val v l)(hk: ∀o∈l,o.Al)(hsmall:l.length<small)(s:St):aM (QS sp) 31 [.agg [v]] s (.bool (gU l)) s:=by
 have hlen:=fun mk s=>hl.len pf o9 mk s;have hcl:=hl.aL;refine dz Fa.1 Fa.2 Fa.3 Fa.4 h23 ?_;refine aw ?_;simp only[ai,bv,bt,ah,aV,PL];refine aw ?_;simp only[cG,Ci,ah];refine aC (aw ?_);simp only[ai,ax,ay,aa,ah,hcl,hlen];refine bL ?_;refine(aiQ h48 hl hk hsmall l [] _ _ [] rfl (by simp only[aq,aa, *]) (by simp only[gi,eZ,aa,cT]) (by simp only[ew,aa,cT]) (by simp only[aq,aa, *]) (by simp only[aq,aa, *]) (by simp only[aq,aa];rfl) (by simp only[aq,aa, *])).mono ?_;rintro x ⟨e,sz,lc⟩ s' ⟨rfl,hs,⟨rfl,h1,hg,hb,hok⟩|⟨rfl,h2,hok⟩⟩;have hs:sz=29:=hs;subst hs;have h1:aj e 1= .Ge 1 1 0:=h1;have hg:lc.gen 1=1:=hg;have hb:lc.get 1 1=some [v]:=hb;show W (QS sp) 31 _ _ _ _;refine aw ?_;simp only[ai,ax,ay,aa,ah,h1,hg,hb,hcl,hlen];refine bo ⟨rfl,.inr rfl,bz ?_ rfl⟩;simp only[aq,aa,gU,hok,jD];exact congrArg ae.bool (lj l.length 1000000);exact⟨rfl,.inr rfl,bz (by rw[h2];simp[gU,hok]) rfl⟩
end
def jF:ae->Option (List Obj)
 | .agg [v]=>(fF 6 iL v).bind fun l=>bif bk l.length small then some l else none
 |_=>none
def SB: ∀ {xs:List ae} {l:List Obj},lU iL xs=some l->(∀o∈l,o.Al)
 | [],l,h=>by simp only[lU,aP] at h;subst h;intro o ho;cases ho
 |x::xs,l,h=>by
  simp only[lU,az,aP] at h;obtain⟨a,h1,r,h2,rfl⟩:=h;intro o ho;rcases cQ.1 ho with rfl|ho
  exact(lf h1).2;exact SB h2 o ho
def SD: ∀ {l:List Obj},(∀o∈l,o.Al)->lU iL (l.map Obj.val)=some l
 | [],_=>rfl
 |o::l,h=>by
  have ih:=SD (l:=l) fun o ho=>h o (List.mem_cons_of_mem _ ho);simp only[dG,lU,mm (h o List.mem_cons_self),bn,ih]
variable{u:ae}
def lJ(h:jF u=some l): ∃v,u= .agg [v]/\aD 6 Obj.val v l/\(∀o∈l,o.Al)/\l.length<small:=by
 unfold jF at h;split at h;rename_i v;simp only[az] at h;obtain⟨l',h1,h⟩:=h;obtain⟨h2,h⟩:=bm h;injection h with h;subst h
 refine⟨v,rfl,ij (fun v a h=>(lf h).1) h1,?_,eG h2⟩;unfold fF at h1;split at h1;injection h1 with h1;subst h1;intro o ho;cases ho
 obtain⟨_,h1⟩:=bm h1;exact SB h1;cases h1;cases h
def lK(h:aD 6 Obj.val v l)(hg: ∀o∈l,o.Al)(hs:l.length<small):jF (.agg [v])=some l:=by
 have:fF 6 iL v=some l:=by
  rcases h with⟨rfl,rfl⟩|⟨r,rfl⟩
  rfl;simp only[fF,SD hg,fe,bS,cT]
 have q:bk l.length small=true:=cu hs;simp only[ce,jF,this,q]
def Aj(hg: ∀o∈l,o.Al):pures (l.map Obj.val)=true:=by
 rw[pures_all];intro v hv;obtain⟨o,ho,rfl⟩:=List.mem_map.1 hv;exact(hg o ho).pure
def oq(h:aD 6 Obj.val v l)(hg: ∀o∈l,o.Al):ie (.agg [v])=true/\ ∃v',weak (.agg [v])= .agg [v']/\aD 6 Obj.val v' l:=by
 rcases h with⟨rfl,rfl⟩|⟨r,rfl⟩
 exact⟨rfl,.AL,rfl,.inl ⟨rfl,rfl⟩⟩;refine⟨by simp only[ie,jn,Aj hg,cH],.list 6 (l.map Obj.val) (match r with| .own _=>.no|r=>r),?_,.inr ⟨_,rfl⟩⟩;simp only[weak,ej,gK (Aj hg)];cases r<;>rfl
def uW:Sp
 | [v]=>(jF v).bind fun l=>some (.bool (gU l))
 |_=>none
def zN(h:aD 6 Obj.val v l)(hg: ∀o∈l,o.Al)(hs:l.length<small):uW [.agg [v]]=some (.bool (gU l)):=by
 simp only[uW,lK h hg hs,bn]
def T5:du:=(75,ve)::T4
def Ng:dc T5:=.cons Tg Nf
def K7:cq ar 31 uW:=by
 intro args u hv G h w xs wr hx;unfold uW at hv;split at hv;rename_i v;simp only[az,aP] at hv;obtain⟨l,hl,rfl⟩:=hv;obtain⟨v,rfl,hl,hg,hs⟩:=lJ hl;obtain⟨ht,v',hw,hl'⟩:=oq hl hg;have hw:ej [.agg [v]]=[.agg [v']]:=by simp only[ej,hw]
 exact eA (Q:=QT T5) (ep Ng) (fun _=>eH 1) (args:=[.agg [v]]) (v:=.bool (gU l)) (s':=s0) (by simp only[jn,ht,cH]) (by rw[hw];exact aiT (sp:=fun f=>cI f T5) rfl rfl hl' hg hs s0) rfl ⟨1,rfl⟩ G h w xs wr hx;cases hv
def wL:List ak->Bool
 | []=>true
 |r::l=>bif decide (60<r.length) then false else wL l
def Vr(t:be):Bool:=bG 300 (IntKind.i64.wrap ((t.1.length:Int)+(t.2.length:Int)))
def wT:List be->Bool
 | []=>true
 |t::l=>bif Vr t then false else wT l
def z6(o:Obj):Bool:=decide (12<o.gE.length)||decide (20<o.gT.length)||decide (60<o.id.length)
def qV:List Obj->Bool
 | []=>true
 |o::l=>bif z6 o then false else bif wL o.gE then bif wT o.gT then qV l else false else false
def lM(l:List Obj)(n:Int):Bool:=bif bG n (l.length:Nat) then false else qV l
structure C0 (v:ae) (o:Obj) (i g:Nat) (e:aI) (lc:Ag.Loc):Prop where
 h2:aj e 2= .Ge 2 1 0
 g2:lc.gen 2=1
 b2:lc.get 2 1=some [v]
 h6:aj e 6= .Ge 6 g 0
 g6:lc.gen 6=g
 b6:lc.get 6 g=some o.cells
 h5:aj e 5= .int .i64 (i:Nat)
variable{i:Nat}
section
variable{sp:bC}
def abx(ho:o.Ok){lc:Ag.Loc}: ∀(rest pre:List ak) (e:aI),o.gE=pre++rest->C0 v o i g e lc->aj e 7= .int .i64 (pre.length:Nat)->
 W (QS sp) 33 (.loop agt) ⟨e,79,lc⟩ s fun x fr s'=>s'=s/\ ∃e',fr=⟨e',79,lc⟩/\((x= .exit 2/\C0 v o i g e' lc/\wL rest=true)\/(x= .ret/\aj e' 4= .bool false/\wL rest=false)):=by
 intro rest;have hlen:=fun mk s=>ho.gE.len dB dH mk s;have hcl:=ho.gE.aL;have hsm:=fg
 induction rest with
 |nil=>
  intro pre e hpre F h7;obtain⟨h2,g2,b2,h6,g6,b6,h5⟩:=F;have hl:o.gE.length=pre.length:=by rw[hpre];simp
  refine bV ?_;refine aC (aw ?_);simp only[ai,ax,ay,aa,ah,h7,h6,g6,b6,Obj.cells,hcl,hlen,hl,cR];refine cJ ?_;refine dL ⟨rfl,_,rfl,.inl ⟨rfl,⟨?_,g2,b2,?_,g6,b6,?_⟩,rfl⟩⟩<;>simp only[au,aa, *]
 |cons r rest ih=>
  intro pre e hpre F h7;have F0:=F;obtain⟨h2,g2,b2,h6,g6,b6,h5⟩:=F;have hlt:pre.length<o.gE.length:=by rw[hpre];simp
  have hat:o.gE[pre.length]? =some r:=by rw[hpre];simp
  have hia:=fun lc=>ho.gE.at gR hat lc .i64;have hrl:=ho.reflen;have hwr:=eE (n:=pre.length) (by omega);have hil:bG 60 (r.length:Nat)=decide (60<r.length):=im 60 _;refine bV ?_;refine aC (aw ?_);simp only[ai,ax,ay,aa,ah,h7,h6,g6,b6,Obj.cells,hcl,hlen,hlt];refine bU (cL ?_);simp only[bM];refine aC (bL (aw ?_));simp only[ai,ax,ay,aa,ah,h7,h6,g6,b6,Obj.cells,hia,aF,hil];cases hb:decide (60<r.length) with
  |true=>
   refine bU (aw ?_);simp only[cG,gV,ah];refine bo ⟨rfl,_,rfl,.inr ⟨rfl,?_,by simp only[wL,hb,cT]⟩⟩;simp only[aq,aa, *]
  |false=>
   refine dq ?_;simp only[dA];refine bH ?_;simp only[ai,aA,aa,ah,h7,hwr];have hr:wL (r::rest)=wL rest:=by simp only[wL,hb,cF]
   rw[hr];refine ih (pre++[r]) _ (by rw[hpre];simp) ⟨?_,g2,b2,?_,g6,b6,?_⟩ ?_;simp only[au,aa, *];simp only[au,aa, *];simp only[au,aa, *];simp only[aq,cK,aa]
def abA(ho:o.Ok)(hm:s.ge<=s.al){lc:Ag.Loc}: ∀(rest pre:List be) (e:aI),o.gT=pre++rest->C0 v o i g e lc->aj e 8= .int .i64 (pre.length:Nat)->
 W (QS sp) 33 (.loop agu) ⟨e,79,lc⟩ s fun x fr s'=>s'=s/\ ∃e',fr=⟨e',79,lc⟩/\((x= .exit 4/\C0 v o i g e' lc/\wT rest=true)\/(x= .ret/\aj e' 4= .bool false/\wT rest=false)):=by
 intro rest;have hlen:=fun mk s=>ho.gT.len jw jv mk s;have hcl:=ho.gT.aL;have hsm:=fg
 induction rest with
 |nil=>
  intro pre e hpre F h8;obtain⟨h2,g2,b2,h6,g6,b6,h5⟩:=F;have hl:o.gT.length=pre.length:=by rw[hpre];simp
  refine bV ?_;refine aC (aw ?_);simp only[ai,ax,ay,aa,ah,h8,h6,g6,b6,Obj.cells,hcl,hlen,hl,cR];refine cJ ?_;refine dL ⟨rfl,_,rfl,.inl ⟨rfl,⟨?_,g2,b2,?_,g6,b6,?_⟩,rfl⟩⟩<;>simp only[au,aa, *]
 |cons r rest ih=>
  intro pre e hpre F h8;obtain⟨h2,g2,b2,h6,g6,b6,h5⟩:=F;have hlt:pre.length<o.gT.length:=by rw[hpre];simp
  have hat:o.gT[pre.length]? =some r:=by rw[hpre];simp
  have hia:=fun lc=>ho.gT.at lO hat lc .i64;have hrl:=ho.taglen;have hwr:=eE (n:=pre.length) (by omega);refine bV ?_;refine aC (aw ?_);simp only[ai,ax,ay,aa,ah,h8,h6,g6,b6,Obj.cells,hcl,hlen,hlt];refine bU (cL ?_);simp only[bM];refine aC (bL (lD hm ?_));simp only[ai,ax,isStore,ay,aa,ah,h8,h6,g6,b6,Obj.cells,hia,bD];cases hb:Vr r with
  |true=>
   have hb':bG 300 (IntKind.i64.wrap ((r.1.length:Int)+(r.2.length:Int)))=true:=hb;refine dJ (t:=true) (by simp only[aq,bq,aa,hb']) (aw ?_);simp only[cG,gV,ah];refine bo ⟨rfl,_,rfl,.inr ⟨rfl,?_,by simp only[wT,hb,cT]⟩⟩;simp only[aq,aa, *]
  |false=>
   have hb':bG 300 (IntKind.i64.wrap ((r.1.length:Int)+(r.2.length:Int)))=false:=hb;refine dJ (t:=false) (by simp only[aq,bq,aa,hb']) (cL ?_);simp only[dA];refine bH ?_;simp only[ai,aA,aa,ah,h8,hwr];have hr:wT (r::rest)=wT rest:=by simp only[wT,hb,cF]
   rw[hr];refine ih (pre++[r]) _ (by rw[hpre];simp) ⟨?_,g2,b2,?_,g6,b6,?_⟩ ?_;simp only[au,aa, *];simp only[au,aa, *];simp only[au,aa, *];simp only[aq,cK,aa]
def abw(hl:aD 6 Obj.val v l)(hk: ∀o∈l,o.Al)(hsmall:l.length<small)(hm:s.ge<=s.al): ∀(rest pre:List Obj) (e:aI) (lc:Ag.Loc),l=pre++rest->
 aj e 2= .Ge 2 1 0->lc.gen 2=1->lc.get 2 1=some [v]->aj e 5= .int .i64 (pre.length:Nat)->
 W (QS sp) 33 (.loop agv) ⟨e,79,lc⟩ s fun x fr s'=>s'=s/\fr.size=79/\((x= .exit 0/\qV rest=true)\/(x= .ret/\aj fr.env 4= .bool false/\qV rest=false)):=by
 intro rest;have hlen:=fun mk s=>hl.len pf o9 mk s;have hcl:=hl.aL;have hsm:=fg
 induction rest with
 |nil=>
  intro pre e lc hpre h2 g2 b2 h5;have hl:l.length=pre.length:=by rw[hpre];simp
  refine bV ?_;refine aC (aw ?_);simp only[ai,ax,ay,aa,ah,h2,g2,b2,h5,hcl,hlen,hl,cR];refine cJ ?_;exact dL ⟨rfl,rfl,.inl ⟨rfl,rfl⟩⟩
 |cons o rest ih=>
  intro pre e lc hpre h2 g2 b2 h5;have hlt:pre.length<l.length:=by rw[hpre];simp
  have hat:l[pre.length]? =some o:=by rw[hpre];simp
  have hia:=fun lc=>hl.at o7 hat lc .i64;have ho:=(hk o (ku hat)).toOk;have hwr:=eE (n:=pre.length) (by omega);have rlen:=fun mk s=>ho.gE.len dB dH mk s;have rcl:=ho.gE.aL;have tlen:=fun mk s=>ho.gT.len jw jv mk s;have tcl:=ho.gT.aL;have i1:bG 12 (o.gE.length:Nat)=decide (12<o.gE.length):=im 12 _;have i2:bG 20 (o.gT.length:Nat)=decide (20<o.gT.length):=im 20 _;have i3:bG 60 (o.id.length:Nat)=decide (60<o.id.length):=im 60 _;refine bV ?_;refine aC (aw ?_);simp only[ai,ax,ay,aa,ah,h2,g2,b2,h5,hcl,hlen,hlt];refine bU (cL ?_);simp only[bM];refine aC (bL (aw ?_));simp only[ai,ax,cut,bu,aN,ay,aa,ah,aG,aV,PM,h2,g2,b2,h5,hia,Obj.val,Obj.cells];refine aC (aw ?_);have fin: ∀e' lc',aj e' 41= .bool true->W (QS sp) 33 (.cond (aR 41) (.seq (.region agw) .ret) .skip) ⟨e',79,lc'⟩ s fun x fr s'=>x= .ret/\s'=s/\fr.size=79/\aj fr.env 4= .bool false:=by
   intro e' lc' h;refine dJ (t:=true) (by simp only[bq,h]) (aw ?_);simp only[cG,gV,ah];exact bo ⟨rfl,rfl,rfl,by simp only[ik,aa, *]⟩
  cases q1:decide (12<o.gE.length) with
  |true=>
   simp only[ai,ax,ay,aa,ah,rcl,rlen,i1,q1];refine(fin _ _ ?_).mono ?_;simp only[aq,aa, *];rintro x fr s' ⟨rfl,rfl,hs,h⟩;exact⟨rfl,hs,.inr ⟨rfl,h,by simp only[qV,z6,q1,jM,cT]⟩⟩
  |false=>
  cases q2:decide (20<o.gT.length) with
  |true=>
   simp only[ai,ax,ay,aa,ah,rcl,rlen,i1,q1,tcl,tlen,i2,q2];refine(fin _ _ ?_).mono ?_;simp only[aq,aa, *];rintro x fr s' ⟨rfl,rfl,hs,h⟩;exact⟨rfl,hs,.inr ⟨rfl,h,by simp only[qV,z6,q1,q2,jM,l8,cT]⟩⟩
  |false=>
  cases q3:decide (60<o.id.length) with
  |true=>
   simp only[ai,ax,ay,aa,ah,rcl,rlen,i1,q1,tcl,tlen,i2,q2,i3,q3];refine(fin _ _ ?_).mono ?_;simp only[aq,aa, *];rintro x fr s' ⟨rfl,rfl,hs,h⟩;exact⟨rfl,hs,.inr ⟨rfl,h,by simp only[qV,z6,q1,q2,q3,l8,cT]⟩⟩
  |false=>
  have hmany:z6 o=false:=by simp only[z6,q1,q2,q3,jL]
  simp only[ai,ax,ay,aa,ah,rcl,rlen,i1,q1,tcl,tlen,i2,q2,i3,q3];refine dq ?_;simp only[bM];refine aC (aw ?_);simp only[cG,hQ,ah];refine bL ?_;refine(abx (v:=v) ho (i:=pre.length) (g:=lc.gen 6+1) o.gE [] _ rfl ⟨?_,?_,?_,?_,?_,?_,?_⟩ ?_).mono ?_;simp only[au,aa, *];simp only[eZ,aa,cF,g2];simp only[ew,aa,cF,b2];simp only[aq,aa, *];simp only[eZ,aa,cT];simp only[ew,bS,cT,Obj.cells];simp only[au,aa, *];simp only[aq,aa];rfl;rintro x fr s' ⟨rfl,e',rfl,⟨rfl,F,hok⟩|⟨rfl,h4,hok⟩⟩;show W (QS sp) 33 _ _ _ _;refine aw ?_;obtain⟨f2,fg2,fb2,f6,fg6,fb6,f5⟩:=F;simp only[cG,hQ,ah];refine bL ?_;refine(abA (v:=v) ho hm (i:=pre.length) (g:=lc.gen 6+1) o.gT [] _ rfl ⟨?_,fg2,fb2,?_,fg6,fb6,?_⟩ ?_).mono ?_;simp only[au,aa, *];simp only[au,aa, *];simp only[au,aa, *];simp only[ik,aa];rfl;rintro x fr s' ⟨rfl,e'',rfl,⟨rfl,F,hok2⟩|⟨rfl,h4,hok2⟩⟩;show W (QS sp) 33 _ _ _ _;refine bH ?_;obtain⟨f2,fg2,fb2,f6,fg6,fb6,f5⟩:=F;simp only[ai,aA,aa,ah,f5,hwr];have hr:qV (o::rest)=qV rest:=by simp only[cz,qV,hmany,hok,hok2]
  rw[hr];refine ih (pre++[o]) _ _ (by rw[hpre];simp) ?_ fg2 fb2 ?_;simp only[au,aa, *];simp only[aq,cK,aa];exact⟨rfl,rfl,.inr ⟨rfl,h4,by simp only[cz,qV,hmany,hok,hok2]⟩⟩;exact⟨rfl,rfl,.inr ⟨rfl,h4,by simp only[qV,hmany,hok,cF]⟩⟩
def aby(h22:sp 33=none)(hl:aD 6 Obj.val v l)(hk: ∀o∈l,o.Al)(hsmall:l.length<small)(n:Int)(hm:s.ge<=s.al):aM (QS sp) 33 [.agg [v],.int .i64 n] s (.bool (lM l n)) s:=by
 have hlen:=fun mk s=>hl.len pf o9 mk s;have hcl:=hl.aL;refine dz Fe.1 Fe.2 Fe.3 Fe.4 h22 ?_;refine aw ?_;simp only[ai,bv,bt,aa,ah,aG,aV,PM];refine aC (aw ?_);simp only[ai,ax,ay,aa,ah,hcl,hlen];cases hb:bG n (l.length:Nat) with
 |true=>
  refine bU (aw ?_);simp only[cG,gV,ah];refine bo ⟨rfl,.inr rfl,bz ?_ rfl⟩;simp only[ik,aa,lM,hb]
 |false=>
  refine dq ?_;simp only[bM];refine aC (aw ?_);simp only[cG,hQ,ah];refine bL ?_;refine(abw hl hk hsmall hm l [] _ _ rfl (by simp only[aq,aa, *]) (by simp only[gi,eZ,aa,cT]) (by simp only[ew,aa,cT]) (by simp only[aq,aa];rfl)).mono ?_;rintro x ⟨e,sz,lc⟩ s' ⟨rfl,hs,⟨rfl,hok⟩|⟨rfl,h4,hok⟩⟩;have hs:sz=79:=hs;subst hs;show W (QS sp) 33 _ _ _ _;refine aw ?_;simp only[cG,gV,ah];refine bo ⟨rfl,.inr rfl,bz ?_ rfl⟩;simp only[aq,aa,lM,hb,hok];exact⟨rfl,.inr rfl,bz (by rw[h4];simp only[lM,hb,cF,hok]) rfl⟩
end
def zw:Sp
 | [v,.int .i64 n]=>(jF v).bind fun l=>some (.bool (lM l n))
 |_=>none
def I9(h:aD 6 Obj.val v l)(hg: ∀o∈l,o.Al)(hs:l.length<small)(n:Int):zw [.agg [v],.int .i64 n]=some (.bool (lM l n)):=by
 simp only[zw,lK h hg hs,bn]
def abv:cq ar 33 zw:=by
 intro args u hv G h w xs wr hx;unfold zw at hv;split at hv;rename_i v n;simp only[az,aP] at hv;obtain⟨l,hl,rfl⟩:=hv;obtain⟨v,rfl,hl,hg,hs⟩:=lJ hl;obtain⟨ht,v',hw,hl'⟩:=oq hl hg;have hw:ej [.agg [v],.int .i64 n]=[.agg [v'],.int .i64 n]:=by simp only[ej,hw];rfl
 exact eA (Q:=QT []) (ep .nil) (fun _=>eH 1) (args:=[.agg [v],.int .i64 n]) (v:=.bool (lM l n)) (s':=s0) (by simp only[jn,ht];rfl) (by rw[hw];exact aby (sp:=fun f=>cI f []) rfl hl' hg hs n (aU _)) rfl ⟨1,rfl⟩ G h w xs wr hx;cases hv
def T9(a b c d:Int):d8 ar .neq 49 (.agg [.int .i64 a,.int .i64 b]) (.agg [.int .i64 c,.int .i64 d])=some (.bool !(bif aK a c then bif aK b d then true else false else false)):=by
 have h:rX ar 49 (.agg [.int .i64 a,.int .i64 b]) (.agg [.int .i64 c,.int .i64 d])=(some (aK a c)).bind fun r=>bif r then(some (aK b d)).bind fun r=>bif r then some true else some false else some false:=by kernel_rfl
 rw[Il,h];cases aK a c<;>cases aK b d<;>rfl
def Mz(a b c d:ak):d8 ar .neq 92 (.agg [.str a,.str b]) (.agg [.str c,.str d])=some (.bool !(bif a==c then bif b==d then true else false else false)):=by
 have h:rX ar 92 (.agg [.str a,.str b]) (.agg [.str c,.str d])=(some (a==c)).bind fun r=>bif r then(some (b==d)).bind fun r=>bif r then some true else some false else some false:=by kernel_rfl
 rw[Il,h];cases a==c<;>cases b==d<;>rfl
def qQ(a:Int):aK a a=true:=bS a
structure Obj.Eqv (o q:Obj):Prop where
 id:q.id=o.id
 uP:q.uP=o.uP
 x:q.x=o.x
 y:q.y=o.y
 gE:q.gE=o.gE
 gT:q.gT=o.gT
def Obj.Eqv.rfl:o.Eqv o:=⟨Eq.refl _,Eq.refl _,Eq.refl _,Eq.refl _,Eq.refl _,Eq.refl _⟩
structure xk (o q:Obj) (e:aI) (lc:Ag.Loc):Prop where
 h2:aj e 2= .Ge 2 1 0
 g2:lc.gen 2=1
 b2:lc.get 2 1=some o.cells
 h3:aj e 3= .Ge 3 1 0
 g3:lc.gen 3=1
 b3:lc.get 3 1=some q.cells
variable{q:Obj}
section
variable{sp:bC}
def ans(ho:o.Ok)(hq:q.Ok)(hoq:o.Eqv q)(hm:s.ge<=s.al){lc:Ag.Loc}: ∀(rest pre:List ak) (e:aI),o.gE=pre++rest->xk o q e lc->aj e 5= .int .i64 (pre.length:Nat)->
 W (QS sp) 64 (.loop BO) ⟨e,80,lc⟩ s fun x fr s'=>s'=s/\ ∃e',fr=⟨e',80,lc⟩/\x= .exit 0/\xk o q e' lc:=by
 intro rest;have hlen:=fun mk s=>ho.gE.len dB dH mk s;have hcl:=ho.gE.aL;have hcq:=hq.gE.aL;have hsm:=fg
 induction rest with
 |nil=>
  intro pre e hpre F h5;obtain⟨h2,g2,b2,h3,g3,b3⟩:=F;have hl:o.gE.length=pre.length:=by rw[hpre];simp
  refine bV ?_;refine aC (aw ?_);simp only[ai,ax,ay,aa,ah,h5,h2,g2,b2,Obj.cells,hcl,hlen,hl,cR];refine cJ ?_;refine dL ⟨rfl,_,rfl,rfl,⟨?_,g2,b2,?_,g3,b3⟩⟩<;>simp only[au,aa, *]
 |cons r rest ih=>
  intro pre e hpre F h5;obtain⟨h2,g2,b2,h3,g3,b3⟩:=F;have hlt:pre.length<o.gE.length:=by rw[hpre];simp
  have hat:o.gE[pre.length]? =some r:=by rw[hpre];simp
  have hia:=fun lc=>ho.gE.at gR hat lc .i64;have hib:=fun lc=>hq.gE.at gR (hoq.gE▸hat) lc .i64;have hrl:=ho.reflen;have hwr:=eE (n:=pre.length) (by omega);refine bV ?_;refine aC (aw ?_);simp only[ai,ax,ay,aa,ah,h5,h2,g2,b2,Obj.cells,hcl,hlen,hlt];refine bU (cL ?_);simp only[bM];refine aC (bL (lD hm ?_));simp only[ai,ax,isStore,ay,aa,ah,h5,h2,g2,b2,h3,g3,b3,Obj.cells,hia,hib,aF];refine dq ?_;simp only[dA];refine bH ?_;simp only[ai,aA,aa,ah,h5,hwr];refine ih (pre++[r]) _ (by rw[hpre];simp) ⟨?_,g2,b2,?_,g3,b3⟩ ?_;simp only[au,aa, *];simp only[au,aa, *];simp only[aq,cK,aa]
def anu(ho:o.Ok)(hq:q.Ok)(hoq:o.Eqv q)(hm:s.ge<=s.al){lc:Ag.Loc}: ∀(rest pre:List be) (e:aI),o.gT=pre++rest->xk o q e lc->aj e 6= .int .i64 (pre.length:Nat)->
 W (QS sp) 64 (.loop BP) ⟨e,80,lc⟩ s fun x fr s'=>s'=s/\ ∃e',fr=⟨e',80,lc⟩/\x= .exit 2/\xk o q e' lc:=by
 intro rest;have hlen:=fun mk s=>ho.gT.len jw jv mk s;have hcl:=ho.gT.aL;have hcq:=hq.gT.aL;have hsm:=fg
 induction rest with
 |nil=>
  intro pre e hpre F h6;obtain⟨h2,g2,b2,h3,g3,b3⟩:=F;have hl:o.gT.length=pre.length:=by rw[hpre];simp
  refine bV ?_;refine aC (aw ?_);simp only[ai,ax,ay,aa,ah,h6,h2,g2,b2,Obj.cells,hcl,hlen,hl,cR];refine cJ ?_;refine dL ⟨rfl,_,rfl,rfl,⟨?_,g2,b2,?_,g3,b3⟩⟩<;>simp only[au,aa, *]
 |cons r rest ih=>
  intro pre e hpre F h6;obtain⟨h2,g2,b2,h3,g3,b3⟩:=F;have hlt:pre.length<o.gT.length:=by rw[hpre];simp
  have hat:o.gT[pre.length]? =some r:=by rw[hpre];simp
  have hia:=fun lc=>ho.gT.at lO hat lc .i64;have hib:=fun lc=>hq.gT.at lO (hoq.gT▸hat) lc .i64;have hrl:=ho.taglen;have hwr:=eE (n:=pre.length) (by omega);refine bV ?_;refine aC (aw ?_);simp only[ai,ax,ay,aa,ah,h6,h2,g2,b2,Obj.cells,hcl,hlen,hlt];refine bU (cL ?_);simp only[bM];refine aC (bL (lD hm ?_));simp only[ai,ax,isStore,cut,aN,ay,aa,ah,aG,h6,h2,g2,b2,h3,g3,b3,Obj.cells,hia,hib,bD,Mz];refine dq ?_;simp only[dA];refine bH ?_;simp only[ai,aA,aa,ah,h6,hwr];refine ih (pre++[r]) _ (by rw[hpre];simp) ⟨?_,g2,b2,?_,g3,b3⟩ ?_;simp only[au,aa, *];simp only[au,aa, *];simp only[aq,cK,aa]
def ant(h40:sp 64=none)(ho:o.Ok)(hq:q.Ok)(hoq:o.Eqv q)(hm:s.ge<=s.al):aM (QS sp) 64 [o.val,q.val] s (.bool true) s:=by
 have rlen:=fun mk s=>ho.gE.len dB dH mk s;have rcl:=ho.gE.aL;have rlq:=fun mk s=>hq.gE.len dB dH mk s;have rcq:=hq.gE.aL;have tlq:=fun mk s=>hq.gT.len jw jv mk s;have tcq:=hq.gT.aL;obtain⟨e1,e2,e3,e4,e5,e6⟩:=id hoq;have tlen:=fun mk s=>ho.gT.len jw jv mk s;have tcl:=ho.gT.aL;refine dz wy.1 wy.2 wy.3 wy.4 h40 ?_;refine aw ?_;simp only[ai,bv,bt,aa,ah,aG,aV,qj,Obj.val];refine aC (aw ?_);simp only[ai,ax,cut,aN,ay,aa,ah,aG,Obj.cells,rcl,rlen,tcl,tlen,rcq,rlq,tcq,tlq,e1,e2,e3,e4,e5,e6,T9,qQ];refine dq ?_;simp only[bM];refine aC (aw ?_);simp only[cG,hQ,ah];refine bL ?_;refine(ans ho hq hoq hm o.gE [] _ rfl ⟨?_,?_,?_,?_,?_,?_⟩ ?_).mono ?_;simp only[aq,aa, *];simp only[cz,gi,eZ,aa];simp only[cz,ew,aa,Obj.cells];simp only[aq,aa, *];simp only[cz,gi,eZ,aa];simp only[cz,ew,aa,Obj.cells,e1,e2,e3,e4];simp only[aq,aa];rfl;rintro x fr s' ⟨rfl,e',rfl,rfl,F⟩;show W (QS sp) 64 _ _ _ _;obtain⟨h2,g2,b2,h3,g3,b3⟩:=F;refine aC (aw ?_);simp only[cG,hQ,ah];refine bL ?_;refine(anu ho hq hoq hm o.gT [] _ rfl ⟨?_,g2,b2,?_,g3,b3⟩ ?_).mono ?_;simp only[au,aa, *];simp only[au,aa, *];simp only[ik,aa];rfl;rintro x fr s' ⟨rfl,e',rfl,rfl,F⟩;show W (QS sp) 64 _ _ _ _;refine aw ?_;simp only[cG,gV,ah];refine bo ⟨rfl,.inr rfl,bz ?_ rfl⟩;simp only[ik,aa, *]
end
open Classical in
noncomputable def Aq:Sp
 | [a,b]=>(iL a).bind fun o=>(iL b).bind fun q=>if o.Eqv q then some (.bool true) else none
 |_=>none
def anf(h:o.Al)(h2:q.Al)(e:o.Eqv q):Aq [o.val,q.val]=some (.bool true):=by
 simp only[Aq,iP e,mm h,mm h2,bn]
def ang:cq ar 64 Aq:=by
 intro args u hv G h w xs wr hx;unfold Aq at hv;split at hv;rename_i a b;simp only[az] at hv;obtain⟨o,ho,q,hq,hv⟩:=hv;split at hv;rename_i e;injection hv with hv;subst hv
 obtain⟨rfl,hg⟩:=lf ho;obtain⟨rfl,hg2⟩:=lf hq;have hp:pures [o.val,q.val]=true:=by simp only[pures,hg.pure,hg2.pure,cH]
 exact eA (Q:=QT []) (ep .nil) (fun _=>eH 1) (args:=[o.val,q.val]) (v:=.bool true) (s':=s0) (kh hp) (by rw[gK hp];exact ant (sp:=fun f=>cI f []) rfl hg.toOk hg2.toOk e (aU _)) rfl ⟨1,rfl⟩ G h w xs wr hx;cases hv;cases hv
structure vL (l r:List Obj):Prop where
 len:r.length=l.length
 at_: ∀(i:Nat) (o q:Obj),l[i]? =some o->r[i]? =some q->o.Eqv q
def vL.rfl:vL l l:=⟨Eq.refl _,fun i o q h1 h2=>by rw[h1] at h2;injection h2 with h2;subst h2;exact .rfl⟩
def vL.some{r:List Obj}(h:vL l r)(ho:l[i]? =some o): ∃q,r[i]? =some q/\o.Eqv q:=by
 have hlt:i<r.length:=by
  rw[h.len];rcases Nat.lt_or_ge i l.length with h1|h1
  exact h1;rw[List.getElem?_eq_none h1] at ho;cases ho
 exact⟨_,gL hlt,h.at_ _ _ _ ho (gL hlt)⟩
structure WE (v u:ae) (e:aI) (lc:Ag.Loc):Prop where
 h2:aj e 2= .Ge 2 1 0
 g2:lc.gen 2=1
 b2:lc.get 2 1=some [v]
 h3:aj e 3= .Ge 3 1 0
 g3:lc.gen 3=1
 b3:lc.get 3 1=some [u]
section
variable{sp:bC}(h40:sp 64=some Aq)
include h40
def anr{r:List Obj}(hl:aD 6 Obj.val v l)(hu:aD 6 Obj.val u r)(hlr:vL l r)(hk: ∀o∈l,o.Al)(hk2: ∀o∈r,o.Al)(hsmall:l.length<small)(hm:s.ge<=s.al){lc:Ag.Loc}: ∀(rest pre:List Obj) (e:aI),l=pre++rest->WE v u e lc->aj e 5= .int .i64 (pre.length:Nat)->
 W (QS sp) 20 (.loop afv) ⟨e,32,lc⟩ s fun x fr s'=>s'=s/\ ∃e',fr=⟨e',32,lc⟩/\x= .exit 0:=by
 intro rest;have hlen:=fun mk s=>hl.len pf o9 mk s;have hcl:=hl.aL;have hcu:=hu.aL;have hsm:=fg
 induction rest with
 |nil=>
  intro pre e hpre F h5;obtain⟨h2,g2,b2,h3,g3,b3⟩:=F;have hl:l.length=pre.length:=by rw[hpre];simp
  refine bV ?_;refine aC (aw ?_);simp only[ai,ax,ay,aa,ah,h5,h2,g2,b2,hcl,hlen,hl,cR];refine cJ ?_;exact dL ⟨rfl,_,rfl,rfl⟩
 |cons o rest ih=>
  intro pre e hpre F h5;obtain⟨h2,g2,b2,h3,g3,b3⟩:=F;have hlt:pre.length<l.length:=by rw[hpre];simp
  have hat:l[pre.length]? =some o:=by rw[hpre];simp
  have hia:=fun lc=>hl.at o7 hat lc .i64;obtain⟨q,hqt,hoq⟩:=hlr.some hat;have hiu:=fun lc=>hu.at o7 hqt lc .i64;have hos:=anf (hk o (ku hat)) (hk2 q (ku hqt)) hoq;simp only[Obj.val,Obj.cells] at hos;have hwr:=eE (n:=pre.length) (by omega);refine bV ?_;refine aC (aw ?_);simp only[ai,ax,ay,aa,ah,h5,h2,g2,b2,hcl,hlen,hlt];refine bU (cL ?_);simp only[bM];refine aC (bL (lD hm ?_));simp only[ai,ax,isStore,cut,aN,ay,aa,ah,aG,h5,h2,g2,b2,h3,g3,b3,hia,hiu,Obj.val,Obj.cells,h40,hos];refine dq ?_;simp only[dA];refine bH ?_;simp only[ai,aA,aa,ah,h5,hwr];refine ih (pre++[o]) _ (by rw[hpre];simp) ⟨?_,g2,b2,?_,g3,b3⟩ ?_;simp only[au,aa, *];simp only[au,aa, *];simp only[aq,cK,aa]
def ann(h14:sp 20=none){r:List Obj}(hl:aD 6 Obj.val v l)(hu:aD 6 Obj.val u r)(hlr:vL l r)(hk: ∀o∈l,o.Al)(hk2: ∀o∈r,o.Al)(hsmall:l.length<small)(hm:s.ge<=s.al):aM (QS sp) 20 [.agg [v],.agg [u]] s (.bool true) s:=by
 have hlen:=fun mk s=>hl.len pf o9 mk s;have hlen2:=fun mk s=>hu.len pf o9 mk s;have hrl:=hlr.len;have hcl:=hl.aL;have hcu:=hu.aL;refine dz EL.1 EL.2 EL.3 EL.4 h14 ?_;refine aw ?_;simp only[ai,bv,bt,aa,ah,aG,aV,adh];refine aC (aw ?_);simp only[ai,ax,ay,aa,ah,hcl,hlen,hcu,hlen2,hrl,qQ];refine dq ?_;simp only[bM];refine aC (aw ?_);simp only[cG,hQ,ah];refine bL ?_;refine(anr h40 hl hu hlr hk hk2 hsmall hm l [] _ rfl ⟨?_,?_,?_,?_,?_,?_⟩ ?_).mono ?_;simp only[aq,aa, *];simp only[cz,gi,eZ,aa];simp only[cz,ew,aa];simp only[aq,aa, *];simp only[cz,gi,eZ,aa];simp only[cz,ew,aa];simp only[aq,aa];rfl;rintro x fr s' ⟨rfl,e',rfl,rfl⟩;show W (QS sp) 20 _ _ _ _;refine aw ?_;simp only[cG,gV,ah];refine bo ⟨rfl,.inr rfl,bz ?_ rfl⟩;simp only[ik,aa, *]
end
open Classical in
noncomputable def Ar:Sp
 | [a,b]=>(jF a).bind fun l=>(jF b).bind fun r=>if vL l r then some (.bool true) else none
 |_=>none
def anl{r:List Obj}(h:aD 6 Obj.val v l)(h2:aD 6 Obj.val u r)(hlr:vL l r)(hg: ∀o∈l,o.Al)(hg2: ∀o∈r,o.Al)(hs:l.length<small):Ar [.agg [v],.agg [u]]=some (.bool true):=by
 simp only[Ar,lK h hg hs,lK h2 hg2 (by rw[hlr.len];exact hs),bn,iP hlr]
noncomputable def T6:du:=[(64,Aq)]
def WK:dc T6:=.cons ang .nil
def anm:cq ar 20 Ar:=by
 intro args x hv G h w xs wr hx;unfold Ar at hv;split at hv;rename_i a b;simp only[az] at hv;obtain⟨l,h1,r,h2,hv⟩:=hv;split at hv;rename_i e;injection hv with hv;subst hv
 obtain⟨v,rfl,hl,hg,hs⟩:=lJ h1;obtain⟨u,rfl,hu,hg2,_⟩:=lJ h2;obtain⟨ht,v',hw,hl'⟩:=oq hl hg;obtain⟨ht2,u',hw2,hu'⟩:=oq hu hg2;have hw:ej [.agg [v],.agg [u]]=[.agg [v'],.agg [u']]:=by simp only[ej,hw,hw2]
 exact eA (Q:=QT T6) (ep WK) (fun _=>eH 1) (args:=[.agg [v],.agg [u]]) (v:=.bool true) (s':=s0) (by simp only[jn,ht,ht2,cH]) (by rw[hw];exact ann (sp:=fun f=>cI f T6) rfl rfl hl' hu' e hg hg2 hs (aU _)) rfl ⟨1,rfl⟩ G h w xs wr hx;cases hv;cases hv
def xT(b:UInt8):Bool:=se b||BF b||aJ b.toNat 95
def DS(r:Option (ae×Nat))(b:Bool):Bool:=
 match r with
 |some (.bool c,0)=>c==b
 |_=>false
def P8{r:Option (ae×Nat)}{b:Bool}(h:DS r b=true):r=some (.bool b,0):=by
 unfold DS at h;split at h;rename_i c;rw[eq_of_beq h];cases h
def aal:(iv 256).all (fun n=>DS (jT [] 100 259 [.int .u8 n]) (xY n))=true:=by kernel_rfl
def aak:(iv 256).all (fun n=>DS (jT [] 100 258 [.int .u8 n]) (xY n||zk n||aJ n 95))=true:=by kernel_rfl
def BT:Sp
 | [.int .u8 (.ofNat n)]=>bif bk n 256 then some (.bool (xY n)) else none
 |_=>none
def CM:Sp
 | [.int .u8 (.ofNat n)]=>bif bk n 256 then some (.bool (xY n||zk n||aJ n 95)) else none
 |_=>none
def ah2(b:UInt8):BT [.int .u8 (b.toNat:Nat)]=some (.bool (se b)):=by
 have:bk b.toNat 256=true:=cu b.toNat_lt;show(bif bk b.toNat 256 then _ else _)=_;rw[this];rfl
def apn(b:UInt8):CM [.int .u8 (b.toNat:Nat)]=some (.bool (xT b)):=by
 have:bk b.toNat 256=true:=cu b.toNat_lt;show(bif bk b.toNat 256 then _ else _)=_;rw[this];rfl
def ah3:cq ar 259 BT:=by
 intro args u hv G h w xs wr hx;unfold BT at hv;split at hv;rename_i n;obtain⟨h1,hv⟩:=bm hv;injection hv with hv;subst hv
 exact lu .nil (P8 (fY.1 aal n (yP.2 (eG h1)))) (args':=[.int .u8 (.ofNat n)]) rfl rfl G h w xs wr hx;cases hv
def apo:cq ar 258 CM:=by
 intro args u hv G h w xs wr hx;unfold CM at hv;split at hv;rename_i n;obtain⟨h1,hv⟩:=bm hv;injection hv with hv;subst hv
 exact lu .nil (P8 (fY.1 aak n (yP.2 (eG h1)))) (args':=[.int .u8 (.ofNat n)]) rfl rfl G h w xs wr hx;cases hv
section
variable{sp:bC}(h144:sp 258=some CM)
include h144
def ajQ(hsmall:str.length<9223372036854775808): ∀(rest pre:ak) (e:aI) (lc:Ag.Loc),str=pre++rest->
 aj e 0= .str str->aj e 3= .int .i64 (pre.length:Nat)->
 W (QS sp) 161 (.loop aeJ) ⟨e,28,lc⟩ s fun x fr s'=>s'=s/\fr.size=28/\((x= .exit 0/\aj fr.env 0= .str str/\rest.all xT=true)\/(x= .ret/\aj fr.env 2= .bool false/\rest.all xT=false)):=by
 intro rest
 induction rest with
 |nil=>
  intro pre e lc hpre h0 h3;have hlen:str.length=pre.length:=by rw[hpre];simp
  refine bV ?_;refine aC (aw ?_);simp only[ai,ax,aa,ah,h0,h3,hlen,cR];refine cJ ?_;refine dL ?_;refine⟨rfl,rfl,.inl ⟨rfl,?_,rfl⟩⟩;simp only[au,aa, *]
 |cons b rest ih=>
  intro pre e lc hpre h0 h3;have hlt:pre.length<str.length:=by rw[hpre];simp
  have hdrop:str.drop pre.length=b::rest:=by rw[hpre];simp
  have hwr:=eE (n:=pre.length) (by omega);have hw8:=apn b;refine bV ?_;refine aC (aw ?_);simp only[ai,ax,aa,ah,h0,h3,hlt];refine bU (cL ?_);simp only[bM];refine aC (bL ?_);refine aw ?_;simp only[ai,ax,aa,ah,h0,h3,hdrop,h144,hw8];cases hw:xT b with
  |false=>
   refine dJ (t:=true) (by simp only[aq,bq,aa,fy]) ?_;refine aw ?_;simp only[cG,gV,fy,ah];refine bo ⟨rfl,rfl,.inr ⟨rfl,by simp only[aq,aa, *],?_⟩⟩;simp only[ma,hw,iK]
  |true=>
   refine dJ (t:=false) (by simp only[aq,bq,aa,dS]) (cL ?_);simp only[dA];refine bH ?_;simp only[ai,aA,aa,ah,h3,hwr];refine(ih (pre++[b]) _ _ (by rw[hpre];simp) (by simp only[au,aa, *]) (by simp only[aq,cK,aa])).mono ?_;simp only[ma,hw,jD];exact fun _ _ _ h=>h
def ajR(h145:sp 259=some BT)(h85:sp 161=none)(str:ak)(hsmall:str.length<9223372036854775808)(s:St):aM (QS sp) 161 [.str str] s (.bool (gj str)) s:=by
 refine dz Ei.1 Ei.2 Ei.3 Ei.4 h85 ?_;refine aw ?_;simp only[ai,bv,bt,ah,aV];refine aC (aw ?_);simp only[cG,hQ,ah];refine bL ?_;refine(ajQ h144 hsmall str [] _ _ rfl (by simp only[aq,aa, *]) (by simp only[aq,aa];rfl)).mono ?_;rintro x ⟨e,sz,lc⟩ s' ⟨rfl,hs,⟨rfl,h0,hok⟩|⟨rfl,h2,hok⟩⟩;have hs:sz=28:=hs;subst hs;have h0:aj e 0= .str str:=h0;show W (QS sp) 161 _ _ _ _;refine aw ?_;cases str with
 |nil=>
  have h1:bG 0 ((0:Nat):Int)=false:=rfl;simp only[ai,ax,aa,ah,h0,h1];refine bo ⟨rfl,.inr rfl,bz ?_ rfl⟩;simp only[aq,aa, *];rfl
 |cons b r=>
  have h1:bG 0 (((b::r).length:Nat):Int)=true:=by rw[show(0:Int)=((0:Nat):Int) from rfl,im];simp
  have hil:ec (((b::r).length:Nat):Int) 24=decide ((b::r).length<=24):=lj _ 24;have hlb:=ah2 b;have hn:gj (b::r)=(se b&&decide ((b::r).length<=24)):=by
   simp only[ma,bA] at hok;have h2:yc r=true:=hok.2;simp only[gj,h2,rr,Gp]
  cases h24:decide ((b::r).length<=24) with
  |false=>
   rw[h24] at hil;simp only[cP] at h1 hil;simp only[ai,ax,aa,ah,h0,h1,hil];refine bo ⟨rfl,.inr rfl,bz ?_ rfl⟩;simp only[aq,aa, *];rw[ki]
  |true=>
   rw[h24] at hil;have h0d:eK (.int .i64 0)=some 0:=rfl;simp only[cP] at h1 hil;simp only[ai,ax,ay,aa,ah,h0,h1,hil,h0d,h145,hlb];refine bo ⟨rfl,.inr rfl,bz ?_ rfl⟩;simp only[aq,aa, *];rw[rr]
 refine⟨rfl,.inr rfl,bz ?_ rfl⟩;rw[h2];cases str with
 |nil=>cases hok
 |cons b r=>
  refine congrArg ae.bool ?_;cases hn:gj (b::r) with
  |false=>rfl
  |true=>
   exfalso;simp only[gj,bA] at hn;have h3:xT b=true:=by simp only[xT,hn.1.1,jM]
   have h4:r.all xT=true:=hn.1.2;rw[ma,h3,h4] at hok;cases hok
end
def U1:du:=[(258,CM),(259,BT)]
def Nw:dc U1:=.cons apo (.cons ah3 .nil)
def ajP:cq ar 161 mV:=by
 intro args v hv G h w xs wr hx;unfold mV at hv;split at hv;rename_i s;obtain⟨h1,hv⟩:=bm hv;injection hv with hv;subst hv
 have h1:s.length<small:=eG h1;exact eA (Q:=QT U1) (ep Nw) (fun _=>eH 1) (args:=[.str s]) (v:=.bool (gj s)) (s':=s0) rfl (ajR (sp:=fun f=>cI f U1) rfl rfl rfl s h1 s0) rfl ⟨1,rfl⟩ G h w xs wr hx;cases hv
def xz(P:Program)(t:TypeId)(a b:List UInt8):d8 P .geq t (.str a) (.str b)=some (.bool (!c8 a b)):=rfl
def aam:jT [] 100 240 [.int .i64 1]=some (.str (jo 1),0):=by kernel_rfl
def aan:jT [] 100 240 [.int .i64 2]=some (.str (jo 2),0):=by kernel_rfl
def aao:jT [] 100 240 [.int .i64 3]=some (.str (jo 3),0):=by kernel_rfl
def aap:jT [] 100 240 [.int .i64 4]=some (.str (jo 4),0):=by kernel_rfl
def aaq:jT [] 100 240 [.int .i64 5]=some (.str (jo 5),0):=by kernel_rfl
def apr(e:aI)(s:St):cx ar 25 6 [(0,dK (jO {data:= #[] })),(1,dK (jO {data:= #[110,111,100,101] })),(2,dK (jO {data:= #[119,97,121] })),(3,dK (jO {data:= #[97,114,101,97] })),(4,dK (jO {data:= #[114,111,117,116,101] })),(5,dK (jO {data:= #[116,117,114,110] }))] false e s=
 some (.list 1 [.str [],.str [110,111,100,101],.str [119,97,121],.str [97,114,101,97],.str [114,111,117,116,101],.str [116,117,114,110]] .GE,s):=by
 kernel_rfl
def aps(h86:sp 240=none)(hk:k<1\/5<k)(s:St):aM (QS sp) 240 [.int .i64 k] s (.str []) s:=by
 refine dz ER.1 ER.2 ER.3 ER.4 h86 ?_;refine aw ?_;simp only[ai,bv,bt,ah,aV];refine aw ?_;simp only[ai,aa,ah,adk,apr];refine aC (aw ?_);have fin: ∀e' lc',aj e' 10= .bool true->W (QS sp) 240 (.cond (aR 10) (.seq (.region afB) .ret) .skip) ⟨e',15,lc'⟩ s fun x fr s'=>x= .ret/\s'=s/\aj fr.env 2= .str []:=by
  intro e' lc' h;refine dJ (t:=true) (by simp only[bq,h]) (aw ?_);simp only[cG,Ci,ah];exact bo ⟨rfl,rfl,by simp only[ik,aa, *]⟩
 cases h1:bG k 1 with
 |true=>
  simp only[ai,aa,ah,h1];refine(fin _ _ ?_).mono ?_;simp only[aq,aa, *];rintro x fr s' ⟨rfl,rfl,h⟩;exact⟨rfl,.inr rfl,bz h rfl⟩
 |false=>
  have h2:bG 5 k=true:=by
   simp only[bG,decide_eq_false_iff_not] at h1;simp only[bG,dE];omega
  simp only[ai,aa,ah,h1,h2];refine(fin _ _ ?_).mono ?_;simp only[aq,aa, *];rintro x fr s' ⟨rfl,rfl,h⟩;exact⟨rfl,.inr rfl,bz h rfl⟩
def apq:cq ar 240 t7:=by
 intro args u hv G h w xs wr hx;unfold t7 at hv;split at hv;rename_i k;injection hv with hv;subst hv
 have hcase:(k<1\/5<k)\/k=1\/k=2\/k=3\/k=4\/k=5:=by omega
 rcases hcase with hk|rfl|rfl|rfl|rfl|rfl
 have hw:jo k=[]:=by
  simp only[jo,iy (show k≠1 by omega),iy (show k≠2 by omega),iy (show k≠3 by omega),iy (show k≠4 by omega),iy (show k≠5 by omega),cF]
 rw[hw];exact eA (Q:=QT []) (ep .nil) (fun _=>eH 1) (args:=[.int .i64 k]) (v:=.str []) (s':=s0) rfl (aps (sp:=fun f=>cI f []) rfl hk s0) rfl ⟨1,rfl⟩ G h w xs wr hx;exact lu .nil aam (args':=[.int .i64 1]) rfl rfl G h w xs wr hx;exact lu .nil aan (args':=[.int .i64 2]) rfl rfl G h w xs wr hx;exact lu .nil aao (args':=[.int .i64 3]) rfl rfl G h w xs wr hx;exact lu .nil aap (args':=[.int .i64 4]) rfl rfl G h w xs wr hx;exact lu .nil aaq (args':=[.int .i64 5]) rfl rfl G h w xs wr hx;cases hv
def akj(h84:sp 239=none)(x y:Int)(s:St):aM (QS sp) 239 [.agg [.int .i64 x,.int .i64 y]] s (.bool (kM x y)) s:=by
 refine dz EP.1 EP.2 EP.3 EP.4 h84 ?_;refine aw ?_;simp only[ai,bv,bt,ah,aV,adj];refine aw ?_;cases h1:ec 0 x with
 |false=>
  simp only[ai,ax,ay,aa,ah,h1];refine bo ⟨rfl,.inr rfl,bz ?_ rfl⟩;simp only[aq,aa, *];simp only[kM,h1,iK]
 |true=>
 cases h2:bG x 1048576 with
 |false=>
  simp only[ai,ax,ay,aa,ah,h1,h2];refine bo ⟨rfl,.inr rfl,bz ?_ rfl⟩;simp only[aq,aa, *];simp only[kM,h1,h2,ki,iK]
 |true=>
 cases h3:ec 0 y with
 |false=>
  simp only[ai,ax,ay,aa,ah,h1,h2,h3];refine bo ⟨rfl,.inr rfl,bz ?_ rfl⟩;simp only[aq,aa, *];simp only[kM,h1,h2,h3,ki,iK]
 |true=>
  simp only[ai,ax,ay,aa,ah,h1,h2,h3];refine bo ⟨rfl,.inr rfl,bz ?_ rfl⟩;simp only[aq,aa, *];simp only[kM,h1,h2,h3,jD]
def aki:cq ar 239 tI:=by
 intro args u hv G h w xs wr hx;unfold tI at hv;split at hv;rename_i x y;injection hv with hv;subst hv
 exact eA (Q:=QT []) (ep .nil) (fun _=>eH 1) (args:=[.agg [.int .i64 x,.int .i64 y]]) (v:=.bool (kM x y)) (s':=s0) rfl (akj (sp:=fun f=>cI f []) rfl x y s0) rfl ⟨1,rfl⟩ G h w xs wr hx;cases hv
def mY(p:Option ak)(k:ak):Bool:=match p with|none=>false|some p=> !c8 p k
def lA(p:Option ak)(t:be):Bool:= !gj t.1||decide (t.2.length<1)||decide (200<t.2.length)||mY p t.1
def j6:Option ak->List be->Bool
 |_,[]=>true
 |p,t::r=>bif lA p t then false else j6 (some t.1) r
def iq(l:List be):Bool:=bif decide (60<l.length) then false else j6 none l
def M8(pre:List be)(p:Option ak):Prop:=(pre=[]/\p=none)\/ ∃q t,pre=q++[t]/\p=some t.1
variable{l:List be}
section
variable{sp:bC}(h85:sp 161=some mV)
include h85
def aoG(hl:aD 2 bD v l)(hk: ∀t∈l,t.1.length<small)(hsmall:l.length<small)(hm:s.ge<=s.al){lc:Ag.Loc}: ∀(rest pre:List be) (e:aI) (p:Option ak),l=pre++rest->M8 pre p->
 aj e 0=v->aj e 3= .int .i64 (pre.length:Nat)->
 W (QS sp) 241 (.loop afD) ⟨e,56,lc⟩ s fun x fr s'=>s'=s/\fr.size=56/\((x= .exit 0/\j6 p rest=true)\/(x= .ret/\aj fr.env 2= .bool false/\j6 p rest=false)):=by
 intro rest;have hlen:=fun mk s=>hl.len jw jv mk s;have hcl:=hl.aL;have hsm:=fg
 induction rest with
 |nil=>
  intro pre e p hpre hp h0 h3;have hlen':l.length=pre.length:=by rw[hpre];simp
  refine bV ?_;refine aC (aw ?_);simp only[ai,aa,ah,h0,h3,hcl,hlen,hlen',cR];refine cJ ?_;exact dL ⟨rfl,rfl,.inl ⟨rfl,rfl⟩⟩
 |cons t rest ih=>
  intro pre e p hpre hp h0 h3;have hlt:pre.length<l.length:=by rw[hpre];simp
  have hat:l[pre.length]? =some t:=by rw[hpre];simp
  have hia:=fun lc=>hl.at lO hat lc .i64;have hns:=yd (hk t (ku hat));have hwr:=eE (n:=pre.length) (by omega);have hi1:bG (t.2.length:Nat) 1=decide (t.2.length<1):=im _ 1;have hi2:bG 200 (t.2.length:Nat)=decide (200<t.2.length):=im 200 _;have hi3:bG 0 (pre.length:Nat)=decide (0<pre.length):=im 0 _;refine bV ?_;refine aC (aw ?_);simp only[ai,aa,ah,h0,h3,hcl,hlen,hlt];refine bU (cL ?_);simp only[bM];refine aC (bL (lD hm ?_));have fin: ∀e' lc',aj e' 55= .bool true->W (QS sp) 241 (.cond (aR 55) (.seq (.region afE) .ret) .skip) ⟨e',56,lc'⟩ s fun x fr s'=>x= .ret/\s'=s/\fr.size=56/\aj fr.env 2= .bool false:=by
   intro e' lc' h;refine dJ (t:=true) (by simp only[bq,h]) (aw ?_);simp only[cG,gV,ah];exact bo ⟨rfl,rfl,rfl,by simp only[ik,aa, *]⟩
  cases hb1:gj t.1 with
  |false=>
   simp only[ai,ax,isStore,ay,aa,ah,h0,h3,hia,bD,h85,hns,hb1];refine(fin _ _ ?_).mono ?_;simp only[aq,aa, *];rintro x fr s' ⟨rfl,rfl,hs,h⟩;exact⟨rfl,hs,.inr ⟨rfl,h,by simp[j6,lA,hb1]⟩⟩
  |true=>
  cases hb2:decide (t.2.length<1) with
  |true=>
   simp only[ai,ax,isStore,ay,aa,ah,h0,h3,hia,bD,h85,hns,hb1,hi1,hb2];refine(fin _ _ ?_).mono ?_;simp only[aq,aa, *];rintro x fr s' ⟨rfl,rfl,hs,h⟩;exact⟨rfl,hs,.inr ⟨rfl,h,by simp only[j6,lA,hb1,hb2,l8,jM,cT]⟩⟩
  |false=>
  cases hb3:decide (200<t.2.length) with
  |true=>
   simp only[ai,ax,isStore,ay,aa,ah,h0,h3,hia,bD,h85,hns,hb1,hi1,hb2,hi2,hb3];refine(fin _ _ ?_).mono ?_;simp only[aq,aa, *];rintro x fr s' ⟨rfl,rfl,hs,h⟩;exact⟨rfl,hs,.inr ⟨rfl,h,by simp only[j6,lA,hb1,hb2,hb3,l8,jM,cT]⟩⟩
  |false=>
  rcases hp with⟨rfl,rfl⟩|⟨q,u,rfl,rfl⟩
  have hi3:bG 0 ((0:Nat):Int)=false:=rfl;have hwr0:IntKind.i64.wrap (((0:Nat):Int)+1)=1:=rfl;simp only[fJ] at h3 hia;simp only[ai,ax,isStore,ay,aa,ah,h0,h3,hia,bD,h85,hns,hb1,hi1,hb2,hi2,hb3,hi3];have hbad:lA none t=false:=by simp only[lA,hb1,hb2,hb3,mY,dS,jL]
  refine dq ?_;simp only[dA];refine bH ?_;simp only[ai,aA,aa,ah,h3,hwr0];refine(ih [t] _ (some t.1) (by rw[hpre];simp) (.inr ⟨[],t,rfl,rfl⟩) (by simp only[au,aa, *]) (by simp only[aq,aa];rfl)).mono ?_;simp only[j6,hbad,cF];exact fun _ _ _ h=>h;have hi3:decide (0<(q++[u]).length)=true:=by simp
  have hat2:l[q.length]? =some u:=by rw[hpre];simp
  have hia2:=fun lc=>hl.at lO hat2 lc .i64;have hws:IntKind.i64.wrap (((q++[u]).length:Int)-1)=((q.length:Nat):Int):=by
   have:(q++[u]).length=q.length+1:=by simp
   rw[this,lC (by omega) (by omega)];omega
  have hi4:bG 0 ((q++[u]).length:Nat)=true:=by rw[show(0:Int)=((0:Nat):Int) from rfl,im];simp
  simp only[ai,ax,isStore,ay,aa,ah,xz,h0,h3,hia,hia2,hws,bD,h85,hns,hb1,hi1,hb2,hi2,hb3,hi4];cases hb4:c8 u.1 t.1 with
  |false=>
   refine(fin _ _ ?_).mono ?_;simp only[aq,aa,fy];rintro x fr s' ⟨rfl,rfl,hs,h⟩;exact⟨rfl,hs,.inr ⟨rfl,h,by simp only[j6,lA,mY,hb4,fy,l8,cT]⟩⟩
  |true=>
   have hbad:lA (some u.1) t=false:=by simp only[lA,hb1,hb2,hb3,mY,hb4,dS,jL]
   refine dJ (t:=false) (by simp only[aq,bq,aa,dS]) (cL ?_);simp only[dA];refine bH ?_;simp only[ai,aA,aa,ah,h3,hwr];refine(ih (q++[u]++[t]) _ (some t.1) (by rw[hpre];simp) (.inr ⟨q++[u],t,rfl,rfl⟩) (by simp only[au,aa, *]) (by simp only[aq,cK,aa])).mono ?_;simp only[j6,hbad,cF];exact fun _ _ _ h=>h
def aoH(h87:sp 241=none)(hl:aD 2 bD v l)(hk: ∀t∈l,t.1.length<small)(hsmall:l.length<small)(hm:s.ge<=s.al):aM (QS sp) 241 [v] s (.bool (iq l)) s:=by
 have hlen:=fun mk s=>hl.len jw jv mk s;have hcl:=hl.aL;have hil:bG 60 (l.length:Nat)=decide (60<l.length):=im 60 _;refine dz ET.1 ET.2 ET.3 ET.4 h87 ?_;refine aw ?_;simp only[ai,bv,bt,ah,aV];refine aC (aw ?_);simp only[ai,aa,ah,hcl,hlen,hil];cases h60:decide (60<l.length) with
 |true=>
  refine bU (aw ?_);simp only[cG,gV,ah];refine bo ⟨rfl,.inr rfl,bz ?_ rfl⟩;simp only[aq,aa,iq,h60]
 |false=>
  refine dq ?_;simp only[bM];refine aC (aw ?_);simp only[cG,hQ,ah];refine bL ?_;refine(aoG h85 hl hk hsmall hm l [] _ none rfl (.inl ⟨rfl,rfl⟩) (by simp only[aq,aa, *]) (by simp only[aq,aa];rfl)).mono ?_;rintro x ⟨e,sz,lc⟩ s' ⟨rfl,hs,⟨rfl,hok⟩|⟨rfl,h2,hok⟩⟩;have hs:sz=56:=hs;subst hs;show W (QS sp) 241 _ _ _ _;refine aw ?_;simp only[cG,gV,ah];refine bo ⟨rfl,.inr rfl,bz ?_ rfl⟩;simp only[aq,aa,iq,h60,hok];exact⟨rfl,.inr rfl,bz (by rw[h2];simp only[iq,h60,cF,hok]) rfl⟩
end
def tU:Sp
 | [v]=>(fF 2 oP v).bind fun l=>bif bk l.length small&&pz l then some (.bool (iq l)) else none
 |_=>none
def Ho(h:aD 2 bD v l)(h1:l.length<small)(h2: ∀t∈l,t.1.length<small):tU [v]=some (.bool (iq l)):=by
 simp only[ce,tU,i8 tg h,jU,h1,dT,tT h2,cH]
def U2:du:=(161,mV)::U1
def Da:dc U2:=.cons ajP Nw
def aoF:cq ar 241 tU:=by
 intro args u hv G h w xs wr hx;unfold tU at hv;split at hv;rename_i v;simp only[az] at hv;obtain⟨l,h1,hv⟩:=hv;obtain⟨h2,hv⟩:=bm hv;injection hv with hv;subst hv
 simp only[bA] at h2;have hl:aD 2 bD v l:=ij (fun _ _=>rO) h1;obtain⟨ht,hw⟩:=JY Hp hl;exact eA (Q:=QT U2) (ep Da) (fun _=>eH 1) (args:=[v]) (v:=.bool (iq l)) (s':=s0) (by simp only[jn,ht,cH])
  (aoH (sp:=fun f=>cI f U2) rfl rfl hw (sQ h2.2) (eG h2.1) (aU _)) rfl ⟨1,rfl⟩ G h w xs wr hx
 cases hv
def yq(p:Option ak)(k:ak):Bool:=match p with|none=>false|some p=>p==k
def rf(uP:Int)(p:Option ak)(seen:List ak)(r:ak):Bool:= !gj r||(aK uP 2&&yq p r)||(aK uP 3&&seen.contains r)
def mZ(uP:Int):Option ak->List ak->List ak->Bool
 |_,_,[]=>true
 |p,seen,r::l=>bif rf uP p seen r then false else mZ uP (some r) (lH r seen) l
def rS(uP:Int)(n:Nat):Bool:=bif aK uP 1 then n==0 else bif aK uP 2 then decide (2<=n) else bif aK uP 3 then decide (3<=n) else bif aK uP 4 then decide (1<=n) else n==3
def rh(o:Obj):Bool:=bif decide (2000<o.gE.length) then false else bif mZ o.uP none [] o.gE then rS o.uP o.gE.length else false
def Wz(pre:List ak)(p:Option ak):Prop:=(pre=[]/\p=none)\/ ∃q t,pre=q++[t]/\p=some t
structure y6 (o:Obj) (n m:Nat) (e:aI) (lc:Ag.Loc):Prop where
 h1:aj e 1= .Ge 1 1 0
 g1:lc.gen 1=1
 b1:lc.get 1 1=some o.cells
 h3:aj e 3= .int .i64 (n:Nat)
 h4:aj e 4= .map m
section
variable{sp:bC}(h85:sp 161=some mV)
include h85
def amf(ho:o.Ok){lc:Ag.Loc}: ∀(rest pre:List ak) (e:aI) (s:St) (p:Option ak) (seen:List ak),o.gE=pre++rest->Wz pre p->s.ge<=s.al->m<s.al->s.ci=0->
 s.get [] m=some (.map (bX 0 (j9 seen)) (j9 seen).length)->y6 o o.gE.length m e lc->aj e 5= .int .i64 (pre.length:Nat)->
 W (QS sp) 242 (.loop QL) ⟨e,87,lc⟩ s fun x fr s'=>s'.ci=0/\((x= .exit 0/\(∃e',fr=⟨e',87,lc⟩/\y6 o o.gE.length m e' lc)/\mZ o.uP p seen rest=true)\/(x= .ret/\aj fr.env 2= .bool false/\mZ o.uP p seen rest=false)):=by
 intro rest;have hcl:=ho.gE.aL;have hsm:=fg;have hrl:=ho.reflen
 induction rest with
 |nil=>
  intro pre e s p seen hpre hp hm hmn hci hs I h5;obtain⟨h1,g1,b1,h3,h4⟩:=I;have hlen':o.gE.length=pre.length:=by rw[hpre];simp
  refine bV ?_;refine aC (aw ?_);simp only[ai,aa,ah,h3,h5,hlen',cR];refine cJ ?_;refine dL ⟨hci,.inl ⟨rfl,⟨_,rfl,⟨?_,g1,b1,?_,?_⟩⟩,rfl⟩⟩;simp only[au,aa, *];simp only[au,aa,h3,hlen'];simp only[au,aa, *]
 |cons r rest ih=>
  intro pre e s p seen hpre hp hm hmn hci hs I h5;obtain⟨h1,g1,b1,h3,h4⟩:=I;have hlt:pre.length<o.gE.length:=by rw[hpre];simp
  have hat:o.gE[pre.length]? =some r:=by rw[hpre];simp
  have hia:=fun lc=>ho.gE.at gR hat lc .i64;have hns:=yd (ho.ref r (ku hat));have hwr:=eE (n:=pre.length) (by omega);have hlk:mU ar [] 44 (.map m) (.str r) false s.top=some (.bool (seen.contains r)):=by
   have:=F5 tn Gl Wd (s:=s.top) (m:=m) hs r;rwa [Sv] at this
  have hup:=AC tn Gl hs r (.bool true);rw[JW] at hup;refine bV ?_;refine aC (aw ?_);simp only[ai,aa,ah,h3,h5,hlt];refine bU (cL ?_);simp only[bM];refine aC (bL (aC (lD hm ?_)));have fin: ∀e' lc' (K:Ex->Fr->St->Prop) N,aj e' 60= .bool true->(∀fr,aj fr.env 2= .bool false->K .ret fr s)->W (QS sp) 242 (.cond (aR 60) (.seq (.region QN) .ret) .skip) ⟨e',87,lc'⟩ s (Ex.next K N):=by
   intro e' lc' K N h hk;refine dJ (t:=true) (by simp only[bq,h]) (aw ?_);simp only[cG,gV,ah];exact bo (hk _ (by simp only[ik,aa, *]))
  have good: ∀e' (K:Ex->Fr->St->Prop),aj e' 60= .bool false->aj e' 1= .Ge 1 1 0->aj e' 3= .int .i64 (o.gE.length:Nat)->aj e' 4= .map m->aj e' 5= .int .i64 (pre.length:Nat)->
   (∀e'',y6 o o.gE.length m e'' lc->aj e'' 5= .int .i64 (pre.length:Nat)->K .normal ⟨e'',87,lc⟩ (s.put m (some (.map (bX 0 (j9 (lH r seen))) (j9 (lH r seen)).length))))->
   W (QS sp) 242 (.cond (aR 60) (.seq (.region QN) .ret) .skip) ⟨e',87,lc⟩ s (Ex.next K fun fr s=>W (QS sp) 242 (.region afG) fr s K):=by
   intro e' K h60 h1' h3' h4' h5' hk;refine dJ (t:=false) (by simp only[bq,h60]) (cL ?_);simp only[bM];refine bH ?_;simp only[ai,ax,ay,aa,ah,h1',h4',h5',g1,b1,Obj.cells,hia,aF,hup];refine hk _ ⟨?_,g1,b1,?_,?_⟩ ?_<;>simp only[au,aa, *]
  have step: ∀e'',rf o.uP p seen r=false->y6 o o.gE.length m e'' lc->aj e'' 5= .int .i64 (pre.length:Nat)->
   W (QS sp) 242 (.region afH) ⟨e'',87,lc⟩ (s.put m (some (.map (bX 0 (j9 (lH r seen))) (j9 (lH r seen)).length))) (Ex.next (fun x fr s'=>s'.ci=0/\((x= .exit 0/\(∃e',fr=⟨e',87,lc⟩/\y6 o o.gE.length m e' lc)/\mZ o.uP p seen (r::rest)=true)\/(x= .ret/\aj fr.env 2= .bool false/\mZ o.uP p seen (r::rest)=false))) fun fr s=>W (QS sp) 242 (.loop QL) fr s (fun x fr s'=>s'.ci=0/\((x= .exit 0/\(∃e',fr=⟨e',87,lc⟩/\y6 o o.gE.length m e' lc)/\mZ o.uP p seen (r::rest)=true)\/(x= .ret/\aj fr.env 2= .bool false/\mZ o.uP p seen (r::rest)=false)))):=by
   intro e'' hbad I h5';obtain⟨h1',_,_,h3',h4'⟩:=I;refine bH ?_;simp only[ai,aA,aa,ah,h5',hwr];have hms:(s.put m (some (.map (bX 0 (j9 (lH r seen))) (j9 (lH r seen)).length))).ge<=(s.put m (some (.map (bX 0 (j9 (lH r seen))) (j9 (lH r seen)).length))).al:=by
    show(bif Nat.ble s.ge m then s.ge else m)<=s.al;cases Nat.ble s.ge m;exact Nat.le_of_lt hmn;exact hm
   refine(ih (pre++[r]) _ _ (some r) (lH r seen) (by rw[hpre];simp) (.inr ⟨pre,r,rfl,rfl⟩) hms hmn hci (by rw[bO];simp only[bS,cT]) ⟨?_,g1,b1,?_,?_⟩ ?_).mono ?_;simp only[au,aa, *];simp only[au,aa, *];simp only[au,aa, *];simp only[aq,cK,aa];simp only[mZ,hbad,cF];exact fun _ _ _ h=>h
  cases hb1:gj r with
  |false=>
   simp only[ai,ax,isStore,ay,aa,ah,h1,g1,b1,h5,Obj.cells,hia,aF,h85,hns,hb1];refine fin _ _ _ _ (by simp only[aq,aa, *]) fun fr h=>?_;exact⟨hci,.inr ⟨rfl,h,by simp only[mZ,rf,hb1,fy,jM,cT]⟩⟩
  |true=>
  cases hk2:aK o.uP 2 with
  |true=>
   have hk3:aK o.uP 3=false:=by
    have:o.uP=2:=by simpa[aK] using hk2
    rw[this];rfl
   rcases hp with⟨rfl,rfl⟩|⟨q,u,rfl,rfl⟩
   have hi3:bG 0 ((0:Nat):Int)=false:=rfl;have h5':=h5;simp only[fJ] at h5 hia;simp only[ai,ax,isStore,ay,aa,ah,h1,g1,b1,h5,Obj.cells,hia,aF,h85,hns,hb1,hk2,hk3,hi3];refine good _ _ ?_ ?_ ?_ ?_ ?_ fun e'' I h5''=>?_;simp only[aq,aa, *];simp only[au,aa, *];simp only[au,aa, *];simp only[au,aa, *];simp only[au,aa];exact h5';simp only[dA];exact step e'' (by simp only[rf,yq,hb1,hk2,hk3,dS,ki,jL,iK]) I h5'';have hat2:o.gE[q.length]? =some u:=by rw[hpre];simp
   have hia2:=fun lc=>ho.gE.at gR hat2 lc .i64;have hws:IntKind.i64.wrap (((q++[u]).length:Int)-1)=((q.length:Nat):Int):=by
    have:(q++[u]).length=q.length+1:=by simp
    rw[this,lC (by omega) (by omega)];omega
   have hi4:bG 0 ((q++[u]).length:Nat)=true:=by rw[show(0:Int)=((0:Nat):Int) from rfl,im];simp
   cases hb4:u==r with
   |true=>
    simp only[ai,ax,isStore,ay,aa,ah,h1,g1,b1,h5,Obj.cells,hia,hia2,hws,aF,h85,hns,hb1,hk2,hi4,hb4];refine fin _ _ _ _ (by simp only[aq,aa, *]) fun fr h=>?_;exact⟨hci,.inr ⟨rfl,h,by simp only[mZ,rf,yq,hb1,hk2,hb4,dS,cH,l8,jM,cT]⟩⟩
   |false=>
    simp only[ai,ax,isStore,ay,aa,ah,h1,g1,b1,h5,Obj.cells,hia,hia2,hws,aF,h85,hns,hb1,hk2,hk3,hi4,hb4];refine good _ _ ?_ ?_ ?_ ?_ ?_ fun e'' I h5''=>?_;simp only[aq,aa, *];simp only[au,aa, *];simp only[au,aa, *];simp only[au,aa, *];simp only[au,aa, *];simp only[dA];exact step e'' (by simp only[rf,yq,hb1,hk2,hk3,hb4,dS,ki,jL,iK]) I h5''
  |false=>
   cases hk3:aK o.uP 3 with
   |false=>
    simp only[ai,ax,isStore,ay,aa,ah,h1,g1,b1,h5,Obj.cells,hia,aF,h85,hns,hb1,hk2,hk3];refine good _ _ ?_ ?_ ?_ ?_ ?_ fun e'' I h5''=>?_;simp only[aq,aa, *];simp only[au,aa, *];simp only[au,aa, *];simp only[au,aa, *];simp only[au,aa, *];simp only[dA];exact step e'' (by simp only[rf,hb1,hk2,hk3,dS,jL,iK]) I h5''
   |true=>
    simp only[ai,ax,isStore,ay,aa,ah,h1,g1,b1,h4,h5,Obj.cells,hia,aF,h85,hns,hb1,hk2,hk3,hlk];cases hb4:seen.contains r with
    |true=>
     refine fin _ _ _ _ (by simp only[aq,aa]) fun fr h=>?_;exact⟨hci,.inr ⟨rfl,h,by simp only[mZ,rf,hb1,hk2,hk3,hb4,dS,cH,l8,cT]⟩⟩
    |false=>
     refine good _ _ ?_ ?_ ?_ ?_ ?_ fun e'' I h5''=>?_;simp only[aq,aa];simp only[au,aa, *];simp only[au,aa, *];simp only[au,aa, *];simp only[au,aa, *];simp only[dA];exact step e'' (by simp only[rf,hb1,hk2,hk3,hb4,dS,jL,iK,ki]) I h5''
end
def Gj(P:Program)(t:TypeId)(e:aI)(s:St):oh P t e none s=some (.map s.al,s.new (.map [] 0)):=rfl
section
variable{sp:bC}(h85:sp 161=some mV)
include h85
def amg(h88:sp 242=none)(ho:o.Ok): ∃v s',aM (QS sp) 242 [o.val] s0 v s'/\(v= .bool (rh o)/\s'.ci=0):=by
 have hcl:=ho.gE.aL;have htl:=ho.gT.aL;have hlen:=fun mk s=>ho.gE.len dB dH mk s;have hil:bG 2000 (o.gE.length:Nat)=decide (2000<o.gE.length):=im 2000 _;refine aM.ofEx EU.1 EU.2 EU.3 EU.4 h88 ?_;refine aw ?_;simp only[ai,bv,bt,ah,aV,adl,Obj.val,Obj.cells];refine aw ?_;simp only[ai,ax,ay,aa,ah,hcl,hlen];refine aC (aw ?_);simp only[ai,aa,ah,hil];cases h20:decide (2000<o.gE.length) with
 |true=>
  refine bU (aw ?_);simp only[cG,gV,ah];refine bo ⟨.inr rfl,_,bz (v:=.bool false) (by simp only[aq,aa]) rfl,?_,rfl⟩;simp only[rh,h20,cT]
 |false=>
  refine dq ?_;simp only[bM];refine aw ?_;simp only[ai,aa,ah,Gj];refine aC (aw ?_);simp only[cG,hQ,ah];refine bL ?_;have hg:((s0.new (.map [] 0))).get [] 0=some (.map (bX 0 (j9 [])) (j9 []).length):=by rw[cp];rfl
  refine(amf h85 ho o.gE [] _ _ none [] rfl (.inl ⟨rfl,rfl⟩) (Nat.zero_le _) (Nat.lt_succ_self _) rfl hg ⟨?_,?_,?_,?_,?_⟩ ?_).mono ?_;simp only[aq,aa, *];simp only[gi,eZ,aa,cT];simp only[ew,aa,cT,Obj.cells];simp only[aq,aa, *];simp only[aq,aa, *];rfl;simp only[aq,aa];rfl;rintro x ⟨e1,sz,lc⟩ s' ⟨hci,⟨rfl,⟨e,hfr,h1,g1,b1,h3,h4⟩,hok⟩|⟨rfl,h2,hok⟩⟩
  ·injection hfr with q1 q2 q3
   subst q1;subst q2;subst q3;show W (QS sp) 242 _ _ _ _;have e1:aK (o.gE.length:Nat) 0=(o.gE.length==0):=o8 _ 0;have e3:aK (o.gE.length:Nat) 3=(o.gE.length==3):=o8 _ 3;have l2:ec 2 (o.gE.length:Nat)=decide (2<=o.gE.length):=lj 2 _;have l3:ec 3 (o.gE.length:Nat)=decide (3<=o.gE.length):=lj 3 _;have l1:ec 1 (o.gE.length:Nat)=decide (1<=o.gE.length):=lj 1 _;refine aC (aw ?_);simp only[ai,ax,ay,ah,h1,g1,b1,Obj.cells];refine bL (aw ?_);simp only[ai,aa,ah];have fin: ∀b,rS o.uP o.gE.length=b->ae.bool b= .bool (rh o):=by
    intro b hb;simp only[cz,rh,h20,hok,hb]
   cases k1:aK o.uP 1 with
   |true=>
    refine bU (aw ?_);simp only[ai,aa,ah,h3,e1];refine bo ⟨.inr rfl,_,bz (v:=.bool (o.gE.length==0)) (by simp only[aq,aa]) rfl,fin _ (by simp only[rS,k1,cT]),hci⟩
   |false=>
   refine cJ (aw ?_);simp only[ai,aa,ah];cases k2:aK o.uP 2 with
   |true=>
    refine bU (aw ?_);simp only[ai,aa,ah,h3,l2];refine bo ⟨.inr rfl,_,bz (v:=.bool (decide (2<=o.gE.length))) (by simp only[aq,aa]) rfl,fin _ (by simp only[cz,rS,k1,k2]),hci⟩
   |false=>
   refine cJ (aw ?_);simp only[ai,aa,ah];cases k3:aK o.uP 3 with
   |true=>
    refine bU (aw ?_);simp only[ai,aa,ah,h3,l3];refine bo ⟨.inr rfl,_,bz (v:=.bool (decide (3<=o.gE.length))) (by simp only[aq,aa]) rfl,fin _ (by simp only[cz,rS,k1,k2,k3]),hci⟩
   |false=>
   refine cJ (aw ?_);simp only[ai,aa,ah];cases k4:aK o.uP 4 with
   |true=>
    refine bU (aw ?_);simp only[ai,aa,ah,h3,l1];refine bo ⟨.inr rfl,_,bz (v:=.bool (decide (1<=o.gE.length))) (by simp only[aq,aa]) rfl,fin _ (by simp only[cz,rS,k1,k2,k3,k4]),hci⟩
   |false=>
   refine dq ?_;simp only[dA];refine aw ?_;simp only[ai,aa,ah,h3,e3];refine bo ⟨.inr rfl,_,bz (v:=.bool (o.gE.length==3)) (by simp only[aq,aa]) rfl,fin _ (by simp only[rS,k1,k2,k3,k4,cF]),hci⟩
  have h2:aj e1 2= .bool false:=h2;refine⟨.inr rfl,_,bz h2 rfl,?_,hci⟩;simp only[rh,h20,hok,cF]
end
def Cs:Sp
 | [v]=>(iL v).bind fun o=>some (.bool (rh o))
 |_=>none
def amd(h:o.Al):Cs [o.val]=some (.bool (rh o)):=by
 show(iL o.val).bind _=_;rw[mm h];rfl
def ame:cq ar 242 Cs:=by
 intro args u hv G h w xs wr hx;unfold Cs at hv;split at hv;rename_i v;simp only[az,aP] at hv;obtain⟨o,ho,rfl⟩:=hv;obtain⟨rfl,hg⟩:=lf ho;obtain⟨v,s',hr,rfl,hci⟩:=amg (sp:=fun f=>cI f U2) rfl rfl hg.toOk;have hw:ej [o.val]=[o.val]:=gK (by simp only[pures,hg.pure,cH]);refine eA (Q:=QT U2) (ep Da) (fun _=>eH 1) (args:=[o.val]) (v:=.bool (rh o)) (s':=s') ?_ (by rw[hw];exact hr) hci ⟨1,rfl⟩ G h w xs wr hx;exact kh (by simp only[pures,hg.pure,cH]);cases hv
def xw(o:Obj):Bool:=bif aK o.uP 1 then kM o.x o.y else t8 o
def mH(o:Obj):Bool:=gj o.id&& !(jo o.uP== [])&&xw o&&iq o.gT&&rh o
def apg(h84:sp 239=some tI)(h85:sp 161=some mV)(h86:sp 240=some t7)(h87:sp 241=some tU)(h88:sp 242=some Cs)(h54:sp 146=none)(ho:o.Al)(s:St):
 aM (QS sp) 146 [o.val] s (.bool (mH o)) s:=by
 have hcl:=ho.gE.aL;have htl:=ho.gT.aL;have hns:=yd ho.id;have hws:t7 [.int .i64 o.uP]=some (.str (jo o.uP)):=rfl;have hos:tI [.agg [.int .i64 o.x,.int .i64 o.y]]=some (.bool (kM o.x o.y)):=rfl;have hts:=Ho ho.gT ho.taglen ho.key;have hrs:=amd ho;simp only[Obj.val,Obj.cells] at hrs;have hpt:=mG o.x o.y 0 0;refine dz Ef.1 Ef.2 Ef.3 Ef.4 h54 ?_;refine aw ?_;simp only[ai,bv,bt,ah,aV,ada,Obj.val,Obj.cells];refine aw ?_;simp only[ai,ax,cut,aN,ay,aa,ah,aG,h84,hos];have last: ∀(e:aI) (lc:Ag.Loc) (b:Bool),aj e 1= .Ge 1 1 0->lc.gen 1=1->lc.get 1 1=some o.cells->aj e 3= .bool b->b=xw o->
  W (QS sp) 146 (.seq (.region aeI) .ret) ⟨e,35,lc⟩ s fun x fr' s1=>s1=s/\(x= .normal\/x= .ret)/\ ∃vs,bW (QS sp) [] fr' s1 [.tmp 2]=some vs/\gG vs= .bool (mH o):=by
  intro e lc b h1 g1 b1 h3 hb;refine aw ?_;cases c1:gj o.id with
  |false=>
   simp only[ai,ax,ay,aa,ah,h1,g1,b1,Obj.cells,h85,hns,c1];refine bo ⟨rfl,.inr rfl,bz ?_ rfl⟩;simp only[aq,aa, *];simp only[mH,c1,iK]
  |true=>
  cases c2:jo o.uP== [] with
  |true=>
   simp only[ai,ax,ay,aa,ah,h1,g1,b1,Obj.cells,h85,hns,c1,h86,hws,c2];refine bo ⟨rfl,.inr rfl,bz ?_ rfl⟩;simp only[aq,aa, *];simp only[mH,c1,c2,dS,ki,iK]
  |false=>
  cases b with
  |false=>
   simp only[ai,ax,ay,aa,ah,h1,g1,b1,h3,Obj.cells,h85,hns,c1,h86,hws,c2];refine bo ⟨rfl,.inr rfl,bz ?_ rfl⟩;simp only[aq,aa, *];simp only[mH,<-hb,ki,iK]
  |true=>
  cases c3:iq o.gT with
  |false=>
   simp only[ai,ax,ay,aa,ah,h1,g1,b1,h3,Obj.cells,h85,hns,c1,h86,hws,c2,htl,h87,hts,c3];refine bo ⟨rfl,.inr rfl,bz ?_ rfl⟩;simp only[aq,aa, *];simp only[mH,c3,ki,iK]
  |true=>
   simp only[ai,ax,cut,aN,ay,aa,ah,aG,h1,g1,b1,h3,Obj.cells,h85,hns,c1,h86,hws,c2,htl,h87,hts,c3,h88,hrs];refine bo ⟨rfl,.inr rfl,bz ?_ rfl⟩;simp only[aq,aa];simp only[mH,c1,c2,c3,<-hb,fy,jD]
 cases k1:aK o.uP 1 with
 |true=>
  refine aC (aw ?_);simp only[ai,ax,ay,aa,ah,k1];refine dq ?_;simp only[bM];refine last _ _ (kM o.x o.y) ?_ ?_ ?_ ?_ (by simp only[xw,k1,cT]);simp only[aq,aa, *];simp only[gi,eZ,aa,cT];simp only[ew,aa,cT,Obj.cells];simp only[aq,aa, *]
 |false=>
  refine aC (aw ?_);simp only[ai,ax,ay,aa,ah,k1];refine bU (bH ?_);simp only[ai,ax,aA,cut,aN,ay,aa,ah,aG,cS,hpt];refine last _ _ (t8 o) ?_ ?_ ?_ ?_ (by simp only[xw,k1,cF]);simp only[aq,aa, *];simp only[gi,eZ,aa,cT];simp only[ew,aa,cT,Obj.cells];simp only[aq,aa,t8];cases aK o.x 0<;>cases aK o.y 0<;>rfl
def yF:Sp
 | [v]=>(iL v).bind fun o=>some (.bool (mH o))
 |_=>none
def VO(h:o.Al):yF [o.val]=some (.bool (mH o)):=by
 show(iL o.val).bind _=_;rw[mm h];rfl
def U3:du:=(239,tI)::(240,t7)::(241,tU)::(242,Cs)::U2
def W7:dc U3:=.cons aki (.cons apq (.cons aoF (.cons ame Da)))
def VP:cq ar 146 yF:=by
 intro args u hv G h w xs wr hx;unfold yF at hv;split at hv;rename_i v;simp only[az,aP] at hv;obtain⟨o,ho,rfl⟩:=hv;obtain⟨rfl,hg⟩:=lf ho;have hw:ej [o.val]=[o.val]:=gK (by simp only[pures,hg.pure,cH]);refine eA (Q:=QT U3) (ep W7) (fun _=>eH 1) (args:=[o.val]) (v:=.bool (mH o)) (s':=s0) ?_ (by rw[hw];exact apg (sp:=fun f=>cI f U3) rfl rfl rfl rfl rfl rfl hg s0) rfl ⟨1,rfl⟩ G h w xs wr hx;exact kh (by simp only[pures,hg.pure,cH]);cases hv
def tH(p:Option ak)(o:Obj):Bool:= !mH o||mY p o.id
def rg:Option ak->List Obj->Bool
 |_,[]=>true
 |p,o::r=>bif tH p o then false else rg (some o.id) r
def sO(l:List Obj):Bool:=bif decide (1000000<l.length) then false else rg none l
def Wy(pre:List Obj)(p:Option ak):Prop:=(pre=[]/\p=none)\/ ∃q t,pre=q++[t]/\p=some t.id
structure M5 (v:ae) (t:Nat) (e:aI) (lc:Ag.Loc):Prop where
 h:aj e t= .Ge t 1 0
 g:lc.gen t=1
 b:lc.get t 1=some [v]
variable{l:List Obj}
section
variable{sp:bC}(h54:sp 146=some yF)
include h54
def aiM(hl:aD 6 Obj.val v l)(hk: ∀o∈l,o.Al)(hsmall:l.length<small)(hm:s.ge<=s.al){lc:Ag.Loc}: ∀(rest pre:List Obj) (e:aI) (p:Option ak),l=pre++rest->Wy pre p->
 M5 v 1 e lc->aj e 3= .int .i64 (pre.length:Nat)->
 W (QS sp) 110 (.loop aei) ⟨e,42,lc⟩ s fun x fr s'=>s'=s/\fr.size=42/\((x= .exit 0/\rg p rest=true)\/(x= .ret/\aj fr.env 2= .bool false/\rg p rest=false)):=by
 intro rest;have hlen:=fun mk s=>hl.len pf o9 mk s;have hcl:=hl.aL;have hsm:=fg
 induction rest with
 |nil=>
  intro pre e p hpre hp I h3;obtain⟨h1,g1,b1⟩:=I;have hlen':l.length=pre.length:=by rw[hpre];simp
  refine bV ?_;refine aC (aw ?_);simp only[ai,ax,ay,aa,ah,h1,g1,b1,h3,hcl,hlen,hlen',cR];refine cJ ?_;exact dL ⟨rfl,rfl,.inl ⟨rfl,rfl⟩⟩
 |cons o rest ih=>
  intro pre e p hpre hp I h3;obtain⟨h1,g1,b1⟩:=I;have hlt:pre.length<l.length:=by rw[hpre];simp
  have hat:l[pre.length]? =some o:=by rw[hpre];simp
  have hia:=fun lc=>hl.at o7 hat lc .i64;have hvs:=VO (hk o (ku hat));simp only[Obj.val,Obj.cells] at hvs;have hwr:=eE (n:=pre.length) (by omega);refine bV ?_;refine aC (aw ?_);simp only[ai,ax,ay,aa,ah,h1,g1,b1,h3,hcl,hlen,hlt];refine bU (cL ?_);simp only[bM];refine aC (bL (lD hm ?_));have fin: ∀e' lc' (K:Ex->Fr->St->Prop),aj e' 41= .bool true->(∀fr,fr.size=42->aj fr.env 2= .bool false->K .ret fr s)->W (QS sp) 110 (.cond (aR 41) (.seq (.region aej) .ret) .skip) ⟨e',42,lc'⟩ s K:=by
   intro e' lc' K h hK;refine dJ (t:=true) (by simp only[bq,h]) (aw ?_);simp only[cG,gV,ah];exact bo (hK _ rfl (by simp only[ik,aa, *]))
  cases hb1:mH o with
  |false=>
   simp only[ai,ax,isStore,cut,aN,ay,aa,ah,aG,h1,g1,b1,h3,hia,Obj.val,Obj.cells,h54,hvs,hb1];refine fin _ _ _ (by simp only[aq,aa, *]) fun fr hs h=>?_;exact⟨rfl,hs,.inr ⟨rfl,h,by simp only[rg,tH,hb1,fy,jM,cT]⟩⟩
  |true=>
  rcases hp with⟨rfl,rfl⟩|⟨q,u,rfl,rfl⟩
  have hi3:bG 0 ((0:Nat):Int)=false:=rfl;have hwr0:IntKind.i64.wrap (((0:Nat):Int)+1)=1:=rfl;simp only[fJ] at h3 hia;simp only[ai,ax,isStore,cut,aN,ay,aa,ah,aG,h1,g1,b1,h3,hia,Obj.val,Obj.cells,h54,hvs,hb1,hi3];have hbad:tH none o=false:=by simp only[tH,hb1,mY,dS,jL]
  refine dq ?_;simp only[dA];refine bH ?_;simp only[ai,aA,aa,ah,h3,hwr0];refine(ih [o] _ (some o.id) (by rw[hpre];simp) (.inr ⟨[],o,rfl,rfl⟩) ⟨by simp only[au,aa, *],g1,b1⟩ (by simp only[aq,aa];rfl)).mono ?_;simp only[rg,hbad,cF];exact fun _ _ _ h=>h;have hat2:l[q.length]? =some u:=by rw[hpre];simp
  have hia2:=fun lc=>hl.at o7 hat2 lc .i64;have hws:IntKind.i64.wrap (((q++[u]).length:Int)-1)=((q.length:Nat):Int):=by
   have:(q++[u]).length=q.length+1:=by simp
   rw[this,lC (by omega) (by omega)];omega
  have hi4:bG 0 ((q++[u]).length:Nat)=true:=by rw[show(0:Int)=((0:Nat):Int) from rfl,im];simp
  simp only[ai,ax,isStore,cut,aN,ay,aa,ah,aG,xz,h1,g1,b1,h3,hia,hia2,hws,Obj.val,Obj.cells,h54,hvs,hb1,hi4];cases hb4:c8 u.id o.id with
  |false=>
   refine fin _ _ _ ?_ fun fr hs h=>?_;simp only[aq,aa,fy];exact⟨rfl,hs,.inr ⟨rfl,h,by simp only[rg,tH,mY,hb4,fy,l8,cT]⟩⟩
  |true=>
   have hbad:tH (some u.id) o=false:=by simp only[tH,hb1,mY,hb4,dS,jL]
   refine dJ (t:=false) (by simp only[aq,bq,aa,dS]) (cL ?_);simp only[dA];refine bH ?_;simp only[ai,aA,aa,ah,h3,hwr];refine(ih (q++[u]++[o]) _ (some o.id) (by rw[hpre];simp) (.inr ⟨q++[u],o,rfl,rfl⟩) ⟨by simp only[au,aa, *],g1,b1⟩ (by simp only[aq,cK,aa])).mono ?_;simp only[rg,hbad,cF];exact fun _ _ _ h=>h
def aiN(h34:sp 110=none)(hl:aD 6 Obj.val v l)(hk: ∀o∈l,o.Al)(hsmall:l.length<small)(hm:s.ge<=s.al):aM (QS sp) 110 [.agg [v]] s (.bool (sO l)) s:=by
 have hlen:=fun mk s=>hl.len pf o9 mk s;have hcl:=hl.aL;have hil:bG 1000000 (l.length:Nat)=decide (1000000<l.length):=im 1000000 _;refine dz D3.1 D3.2 D3.3 D3.4 h34 ?_;refine aw ?_;simp only[ai,bv,bt,ah,aV,ac9];refine aC (aw ?_);simp only[ai,ax,ay,aa,ah,hcl,hlen,hil];cases h60:decide (1000000<l.length) with
 |true=>
  refine bU (aw ?_);simp only[cG,gV,ah];refine bo ⟨rfl,.inr rfl,bz ?_ rfl⟩;simp only[aq,aa,sO,h60]
 |false=>
  refine dq ?_;simp only[bM];refine aC (aw ?_);simp only[cG,hQ,ah];refine bL ?_;refine(aiM h54 hl hk hsmall hm l [] _ none rfl (.inl ⟨rfl,rfl⟩) ⟨?_,?_,?_⟩ (by simp only[aq,aa];rfl)).mono ?_;simp only[aq,aa, *];simp only[gi,eZ,aa,cT];simp only[ew,aa,cT];rintro x ⟨e,sz,lc⟩ s' ⟨rfl,hs,⟨rfl,hok⟩|⟨rfl,h2,hok⟩⟩;have hs:sz=42:=hs;subst hs;show W (QS sp) 110 _ _ _ _;refine aw ?_;simp only[cG,gV,ah];refine bo ⟨rfl,.inr rfl,bz ?_ rfl⟩;simp only[aq,aa,sO,h60,hok];exact⟨rfl,.inr rfl,bz (by rw[h2];simp only[sO,h60,cF,hok]) rfl⟩
end
def zM:Sp
 | [u]=>(jF u).bind fun l=>some (.bool (sO l))
 |_=>none
def KX(hl:aD 6 Obj.val v l)(hk: ∀o∈l,o.Al)(hsmall:l.length<small):zM [.agg [v]]=some (.bool (sO l)):=by
 simp only[zM,lK hl hk hsmall,bn]
def U4:du:=[(146,yF)]
def W8:dc U4:=.cons VP .nil
def aiL:cq ar 110 zM:=by
 intro args u hv G h w xs wr hx;unfold zM at hv;split at hv;simp only[az,aP] at hv;obtain⟨l,h1,rfl⟩:=hv;obtain⟨v,rfl,hl,hg,hs⟩:=lJ h1;obtain⟨ht,v',hw,hl'⟩:=oq hl hg;have hw:ej [.agg [v]]=[.agg [v']]:=by simp only[ej,hw]
 exact eA (Q:=QT U4) (ep W8) (fun _=>eH 1) (args:=[.agg [v]]) (v:=.bool (sO l)) (s':=s0) (by simp only[jn,ht,cH]) (by rw[hw];exact aiN (sp:=fun f=>cI f U4) rfl rfl hl' hg hs (aU _)) rfl ⟨1,rfl⟩ G h w xs wr hx;cases hv
def li(id:ak):List Obj->Nat->Option (Nat×Obj)
 | [],_=>none
 |o::l,i=>bif o.id==id then some (i,o) else li id l (i+1)
def vi(r:Option (Nat×Obj)):Int:=match r with|none=> -1|some (k,_)=>(k:Int)
def O7{id:ak}: ∀ {l:List Obj} {i k:Nat} {o:Obj},li id l i=some (k,o)->i<=k/\l[k-i]? =some o/\o.id=id
 | [],_,_,_,h=>by cases h
 |a::l,i,k,o,h=>by
  simp only[li] at h;cases hb:a.id==id with
  |true=>
   rw[hb] at h;simp only[cT,aP,Prod.mk.injEq] at h;obtain⟨rfl,rfl⟩:=h;exact⟨aU _,by simp,by simpa using hb⟩
  |false=>
   rw[hb] at h;obtain⟨h1,h2,h3⟩:=O7 h;refine⟨by omega,?_,h3⟩;rw[show k-i=(k-(i+1))+1 by omega];simpa using h2
def abJ{id:ak}(hl:aD 6 Obj.val v l)(hsmall:l.length<small){lc:Ag.Loc}: ∀(rest pre:List Obj) (e:aI),l=pre++rest->
 M5 v 2 e lc->aj e 1= .str id->aj e 5= .int .i64 (pre.length:Nat)->
 W (QS sp) 198 (.loop afs) ⟨e,22,lc⟩ s fun x fr s'=>s'=s/\fr.size=22/\((x= .exit 0/\li id rest pre.length=none)\/(x= .ret/\ ∃r,li id rest pre.length=some r/\aj fr.env 4= .int .i64 (r.1:Nat))):=by
 intro rest;have hlen:=fun mk s=>hl.len pf o9 mk s;have hcl:=hl.aL;have hsm:=fg
 induction rest with
 |nil=>
  intro pre e hpre I h1 h5;obtain⟨h2,g2,b2⟩:=I;have hlen':l.length=pre.length:=by rw[hpre];simp
  refine bV ?_;refine aC (aw ?_);simp only[ai,ax,ay,aa,ah,h2,g2,b2,h5,hcl,hlen,hlen',cR];refine cJ ?_;exact dL ⟨rfl,rfl,.inl ⟨rfl,rfl⟩⟩
 |cons o rest ih=>
  intro pre e hpre I h1 h5;obtain⟨h2,g2,b2⟩:=I;have hlt:pre.length<l.length:=by rw[hpre];simp
  have hat:l[pre.length]? =some o:=by rw[hpre];simp
  have hia:=fun lc=>hl.at o7 hat lc .i64;have hwr:=eE (n:=pre.length) (by omega);refine bV ?_;refine aC (aw ?_);simp only[ai,ax,ay,aa,ah,h2,g2,b2,h5,hcl,hlen,hlt];refine bU (cL ?_);simp only[bM];refine aC (bL (aw ?_));simp only[ai,ax,ay,aa,ah,h1,h2,g2,b2,h5,hia,Obj.val,Obj.cells];cases hb:o.id==id with
  |true=>
   refine bU (aw ?_);simp only[ai,aa,ah,h5];exact bo ⟨rfl,rfl,.inr ⟨rfl,(pre.length,o),by simp only[li,hb,cT],by simp only[aq,aa, *]⟩⟩
  |false=>
   refine dq ?_;simp only[dA];refine bH ?_;simp only[ai,aA,aa,ah,h5,hwr];refine(ih (pre++[o]) _ (by rw[hpre];simp) ⟨by simp only[au,aa, *],g2,b2⟩ (by simp only[au,aa, *]) (by simp only[aq,cK,aa])).mono ?_;simp only[cK,li,hb,cF];exact fun _ _ _ h=>h
def abK(h55:sp 198=none)(id:ak)(hl:aD 6 Obj.val v l)(hsmall:l.length<small)(s:St):aM (QS sp) 198 [.agg [v],.str id] s (.int .i64 (vi (li id l 0))) s:=by
 have hcl:=hl.aL;refine dz EH.1 EH.2 EH.3 EH.4 h55 ?_;refine aw ?_;simp only[ai,bv,bt,aa,ah,aG,aV,adg];refine aC (aw ?_);simp only[cG,hQ,ah];refine bL ?_;refine(abJ (id:=id) hl hsmall l [] _ rfl ⟨?_,?_,?_⟩ ?_ (by simp only[aq,aa];rfl)).mono ?_;simp only[aq,aa, *];simp only[gi,eZ,aa,cT];simp only[ew,aa,cT];simp only[aq,aa, *];rintro x ⟨e,sz,lc⟩ s' ⟨rfl,hs,⟨rfl,hok⟩|⟨rfl,r,hok,h2⟩⟩;have hs:sz=22:=hs;subst hs;show W (QS sp) 198 _ _ _ _;refine aw ?_;simp only[cG,hQ,ah];refine bo ⟨rfl,.inr rfl,bz ?_ rfl⟩;have hok:li id l 0=none:=hok;simp only[ik,aa,hok,vi];have hok:li id l 0=some r:=hok;exact⟨rfl,.inr rfl,bz (by rw[h2,hok];rfl) rfl⟩
def uH:Sp
 | [u,.str id]=>(jF u).bind fun l=>some (.int .i64 (vi (li id l 0)))
 |_=>none
def Bq(id:ak)(hl:aD 6 Obj.val v l)(hk: ∀o∈l,o.Al)(hsmall:l.length<small):uH [.agg [v],.str id]=some (.int .i64 (vi (li id l 0))):=by
 simp only[uH,lK hl hk hsmall,bn]
def abI:cq ar 198 uH:=by
 intro args u hv G h w xs wr hx;unfold uH at hv;split at hv;rename_i id;simp only[az,aP] at hv;obtain⟨l,h1,rfl⟩:=hv;obtain⟨v,rfl,hl,hg,hs⟩:=lJ h1;obtain⟨ht,v',hw,hl'⟩:=oq hl hg;have hw:ej [.agg [v],.str id]=[.agg [v'],.str id]:=by rw[ej,hw];rfl
 exact eA (Q:=QT []) (ep .nil) (fun _=>eH 1) (args:=[.agg [v],.str id]) (v:=.int .i64 (vi (li id l 0))) (s':=s0) (by show(ie (.agg [v])&&(ie (.str id)&&true))=true;rw[ht];rfl) (by rw[hw];exact abK (sp:=fun f=>cI f []) rfl id hl' hs s0) rfl ⟨1,rfl⟩ G h w xs wr hx;cases hv
def Mv(o q:be):(o==q)=(bif o.1==q.1 then bif o.2==q.2 then true else false else false):=by
 obtain⟨a,b⟩:=o;obtain⟨c,d⟩:=q;show((a==c)&&(b==d))=_;cases a==c<;>cases b==d<;>rfl
variable{l:List ak}
def aab{r:List ak}(hl:aD 1 aF v l)(hu:aD 1 aF u r)(hlen2:l.length=r.length)(hsmall:l.length<small)(hm:s.ge<=s.al){lc:Ag.Loc}: ∀(rest rest2 pre pre2:List ak) (e:aI),l=pre++rest->r=pre2++rest2->pre.length=pre2.length->
 aj e 0=v->aj e 1=u->aj e 12= .int .i64 (l.length:Nat)->aj e 13= .int .i64 (pre.length:Nat)->
 W (QS sp) 70 (.loop aho) ⟨e,26,lc⟩ s fun x fr s'=>s'=s/\fr.size=26/\((x= .exit 0/\(rest==rest2)=true)\/(x= .ret/\aj fr.env 4= .bool false/\(rest==rest2)=false)):=by
 intro rest;have hcl:=hl.aL;have hcu:=hu.aL;have hsm:=fg
 induction rest with
 |nil=>
  intro rest2 pre pre2 e hpre hpre2 hpp h0 h1 h12 h13;have hl':l.length=pre.length:=by rw[hpre];simp
  have h2:rest2=[]:=by
   have:r.length=pre2.length+rest2.length:=by rw[hpre2];simp
   exact ub (by omega)
  subst h2;refine bV ?_;refine aC (bH ?_);simp only[ai,aA,ah,h12,h13,hl',cR];refine aC (cJ ?_);exact dL ⟨rfl,rfl,.inl rfl⟩
 |cons o rest ih=>
  intro rest2 pre pre2 e hpre hpre2 hpp h0 h1 h12 h13;have hlt:pre.length<l.length:=by rw[hpre];simp
  have hat:l[pre.length]? =some o:=by rw[hpre];simp
  cases rest2 with
  |nil=>
   have:r.length=pre2.length:=by rw[hpre2];simp
   omega
  |cons q rest2=>
  have hat2:r[pre.length]? =some q:=by rw[hpre2,hpp];simp
  have hia:=fun lc=>hl.at gR hat lc .i64;have hiu:=fun lc=>hu.at gR hat2 lc .i64;have hwr:=eE (n:=pre.length) (by omega);refine bV ?_;refine aC (bH ?_);simp only[ai,aA,ah,h12,h13,hlt];refine aC (bU (cL ?_));simp only[bM];refine aC (bL (aw ?_));simp only[ai,aa,ah,h13];refine aC (W.drawQ hm ?_);simp only[ai,ax,aA,isStore,ay,aa,ah,h0,h1,hia,hiu,aF];cases hb:o==q with
  |false=>
   refine dJ (t:=true) (by simp only[aq,bq,aa,fy]) (aw ?_);simp only[cG,gV,fy,ah];refine bo ⟨rfl,rfl,.inr ⟨rfl,by simp only[aq,aa, *],?_⟩⟩;simp only[HF,hb,iK]
  |true=>
   refine dJ (t:=false) (by simp only[aq,bq,aa,dS]) (cL ?_);simp only[dA];refine bH ?_;simp only[ai,aA,aa,ah,h13,hwr];refine(ih rest2 (pre++[o]) (pre2++[q]) _ (by rw[hpre];simp) (by rw[hpre2];simp) (by simp[hpp]) (by simp only[au,aa, *]) (by simp only[au,aa, *]) (by simp only[au,aa, *]) (by simp only[aq,cK,aa])).mono ?_;simp only[HF,hb,jD];exact fun _ _ _ h=>h
def aac(h0:sp 70=none){r:List ak}(hl:aD 1 aF v l)(hu:aD 1 aF u r)(hsmall:l.length<small)(hm:s.ge<=s.al):aM (QS sp) 70 [v,u] s (.bool (l==r)) s:=by
 have hlen:=fun mk s=>hl.len dB dH mk s;have hlen2:=fun mk s=>hu.len dB dH mk s;have hcl:=hl.aL;have hcu:=hu.aL;refine dz FR.1 FR.2 FR.3 FR.4 h0 ?_;refine aw ?_;simp only[ai,bv,bt,ah,aG,aV];refine aC (aw ?_);simp only[ai,aa,ah,PQ,hcl,hcu,hlen,hlen2,o8];cases hb:l.length==r.length with
 |false=>
  refine dJ (t:=true) (by simp only[aq,bq,aa,fy]) (aw ?_);simp only[cG,gV,fy,ah];refine bo ⟨rfl,.inr rfl,bz ?_ rfl⟩;have:(l==r)=false:=bN.2 fun e=>by subst e;simp at hb
  simp only[aq,aa,this]
 |true=>
  have hll:l.length=r.length:=by simpa using hb
  refine dJ (t:=false) (by simp only[aq,bq,aa,dS]) (cL ?_);simp only[bM];refine aC (W.sseq (bH ?_));simp only[ai,aA,aa,ah,PQ,hcl,hlen];refine bL ?_;refine(aab hl hu hll hsmall hm l r [] [] _ rfl rfl rfl (by simp only[aq,aa, *]) (by simp only[aq,aa, *]) (by simp only[aq,aa, *]) (by simp only[aq,aa];rfl)).mono ?_;rintro x ⟨e,sz,lc⟩ s' ⟨rfl,hs,⟨rfl,hok⟩|⟨rfl,h4,hok⟩⟩;have hs:sz=26:=hs;subst hs;show W (QS sp) 70 _ _ _ _;refine aw ?_;simp only[cG,gV,ah];refine bo ⟨rfl,.inr rfl,bz ?_ rfl⟩;simp only[ik,aa,hok];exact⟨rfl,.inr rfl,bz (by rw[h4,hok]) rfl⟩
def rU:Sp
 | [a,b]=>bif pures [a,b] then(fF 1 mS a).bind fun l=>(fF 1 mS b).bind fun r=>bif bk l.length small then some (.bool (l==r)) else none else none
 |_=>none
def Dw{r:List ak}(hl:aD 1 aF v l)(hu:aD 1 aF u r)(hv:aQ v=true)(hu2:aQ u=true)(hs:l.length<small):rU [v,u]=some (.bool (l==r)):=by
 have q1:bk l.length small=true:=cu hs;simp only[ce,rU,pures,hv,hu2,cH,i8 p8 hl,i8 p8 hu,q1]
def OU:cq ar 70 rU:=by
 intro args x hv G h w xs wr hx;unfold rU at hv;split at hv;rename_i a b;obtain⟨hp,hv⟩:=bm hv;simp only[az] at hv;obtain⟨l,h1,r,h2,hv⟩:=hv;obtain⟨hs,hv⟩:=bm hv;injection hv with hv;subst hv
 have hl:=ij (fun v a=>pZ) h1;have hr:=ij (fun v a=>pZ) h2;exact eA (Q:=QT []) (ep .nil) (fun _=>eH 1) (args:=[a,b]) (v:=.bool (l==r)) (s':=s0) (kh hp) (by rw[gK hp];exact aac (sp:=fun f=>cI f []) rfl hl hr (eG hs) (aU _)) rfl ⟨1,rfl⟩ G h w xs wr hx;cases hv
def aaf{l r:List be}(hl:aD 2 bD v l)(hu:aD 2 bD u r)(hlen2:l.length=r.length)(hsmall:l.length<small)(hm:s.ge<=s.al){lc:Ag.Loc}: ∀(rest rest2 pre pre2:List be) (e:aI),l=pre++rest->r=pre2++rest2->pre.length=pre2.length->
 aj e 0=v->aj e 1=u->aj e 12= .int .i64 (l.length:Nat)->aj e 13= .int .i64 (pre.length:Nat)->
 W (QS sp) 373 (.loop agy) ⟨e,26,lc⟩ s fun x fr s'=>s'=s/\fr.size=26/\((x= .exit 0/\(rest==rest2)=true)\/(x= .ret/\aj fr.env 4= .bool false/\(rest==rest2)=false)):=by
 intro rest;have hcl:=hl.aL;have hcu:=hu.aL;have hsm:=fg
 induction rest with
 |nil=>
  intro rest2 pre pre2 e hpre hpre2 hpp h0 h1 h12 h13;have hl':l.length=pre.length:=by rw[hpre];simp
  have h2:rest2=[]:=by
   have:r.length=pre2.length+rest2.length:=by rw[hpre2];simp
   exact ub (by omega)
  subst h2;refine bV ?_;refine aC (bH ?_);simp only[ai,aA,ah,h12,h13,hl',cR];refine aC (cJ ?_);exact dL ⟨rfl,rfl,.inl rfl⟩
 |cons o rest ih=>
  intro rest2 pre pre2 e hpre hpre2 hpp h0 h1 h12 h13;have hlt:pre.length<l.length:=by rw[hpre];simp
  have hat:l[pre.length]? =some o:=by rw[hpre];simp
  cases rest2 with
  |nil=>
   have:r.length=pre2.length:=by rw[hpre2];simp
   omega
  |cons q rest2=>
  have hat2:r[pre.length]? =some q:=by rw[hpre2,hpp];simp
  have hia:=fun lc=>hl.at lO hat lc .i64;have hiu:=fun lc=>hu.at lO hat2 lc .i64;have hwr:=eE (n:=pre.length) (by omega);refine bV ?_;refine aC (bH ?_);simp only[ai,aA,ah,h12,h13,hlt];refine aC (bU (cL ?_));simp only[bM];refine aC (bL (aw ?_));simp only[ai,aa,ah,h13];refine aC (W.drawQ hm ?_);simp only[ai,ax,aA,isStore,cut,aN,ay,aa,ah,aG,h0,h1,hia,hiu,bD,Mz];cases hb:(bif o.1==q.1 then bif o.2==q.2 then true else false else false) with
  |false=>
   have hq:(o==q)=false:=by rw[Mv,hb]
   refine dJ (t:=true) (by simp only[aq,bq,aa,fy]) (aw ?_);simp only[cG,gV,fy,ah];refine bo ⟨rfl,rfl,.inr ⟨rfl,by simp only[aq,aa, *],?_⟩⟩;simp only[HF,hq,iK]
  |true=>
   have hq:(o==q)=true:=by rw[Mv,hb]
   refine dJ (t:=false) (by simp only[aq,bq,aa,dS]) (cL ?_);simp only[dA];refine bH ?_;simp only[ai,aA,aa,ah,h13,hwr];refine(ih rest2 (pre++[o]) (pre2++[q]) _ (by rw[hpre];simp) (by rw[hpre2];simp) (by simp[hpp]) (by simp only[au,aa, *]) (by simp only[au,aa, *]) (by simp only[au,aa, *]) (by simp only[aq,cK,aa])).mono ?_;simp only[HF,hq,jD];exact fun _ _ _ h=>h
def aag(h0:sp 373=none){l r:List be}(hl:aD 2 bD v l)(hu:aD 2 bD u r)(hsmall:l.length<small)(hm:s.ge<=s.al):aM (QS sp) 373 [v,u] s (.bool (l==r)) s:=by
 have hlen:=fun mk s=>hl.len jw jv mk s;have hlen2:=fun mk s=>hu.len jw jv mk s;have hcl:=hl.aL;have hcu:=hu.aL;refine dz Fg.1 Fg.2 Fg.3 Fg.4 h0 ?_;refine aw ?_;simp only[ai,bv,bt,ah,aG,aV];refine aC (aw ?_);simp only[ai,aa,ah,PN,hcl,hcu,hlen,hlen2,o8];cases hb:l.length==r.length with
 |false=>
  refine dJ (t:=true) (by simp only[aq,bq,aa,fy]) (aw ?_);simp only[cG,gV,fy,ah];refine bo ⟨rfl,.inr rfl,bz ?_ rfl⟩;have:(l==r)=false:=bN.2 fun e=>by subst e;simp at hb
  simp only[aq,aa,this]
 |true=>
  have hll:l.length=r.length:=by simpa using hb
  refine dJ (t:=false) (by simp only[aq,bq,aa,dS]) (cL ?_);simp only[bM];refine aC (W.sseq (bH ?_));simp only[ai,aA,aa,ah,PN,hcl,hlen];refine bL ?_;refine(aaf hl hu hll hsmall hm l r [] [] _ rfl rfl rfl (by simp only[aq,aa, *]) (by simp only[aq,aa, *]) (by simp only[aq,aa, *]) (by simp only[aq,aa];rfl)).mono ?_;rintro x ⟨e,sz,lc⟩ s' ⟨rfl,hs,⟨rfl,hok⟩|⟨rfl,h4,hok⟩⟩;have hs:sz=26:=hs;subst hs;show W (QS sp) 373 _ _ _ _;refine aw ?_;simp only[cG,gV,ah];refine bo ⟨rfl,.inr rfl,bz ?_ rfl⟩;simp only[ik,aa,hok];exact⟨rfl,.inr rfl,bz (by rw[h4,hok]) rfl⟩
def zo:Sp
 | [a,b]=>bif pures [a,b] then(fF 2 oP a).bind fun l=>(fF 2 oP b).bind fun r=>bif bk l.length small then some (.bool (l==r)) else none else none
 |_=>none
def aad{l r:List be}(hl:aD 2 bD v l)(hu:aD 2 bD u r)(hv:aQ v=true)(hu2:aQ u=true)(hs:l.length<small):zo [v,u]=some (.bool (l==r)):=by
 have q1:bk l.length small=true:=cu hs;simp only[ce,zo,pures,hv,hu2,cH,i8 tg hl,i8 tg hu,q1]
def aae:cq ar 373 zo:=by
 intro args x hv G h w xs wr hx;unfold zo at hv;split at hv;rename_i a b;obtain⟨hp,hv⟩:=bm hv;simp only[az] at hv;obtain⟨l,h1,r,h2,hv⟩:=hv;obtain⟨hs,hv⟩:=bm hv;injection hv with hv;subst hv
 have hl:=ij (fun v a=>rO) h1;have hr:=ij (fun v a=>rO) h2;exact eA (Q:=QT []) (ep .nil) (fun _=>eH 1) (args:=[a,b]) (v:=.bool (l==r)) (s':=s0) (kh hp) (by rw[gK hp];exact aag (sp:=fun f=>cI f []) rfl hl hr (eG hs) (aU _)) rfl ⟨1,rfl⟩ G h w xs wr hx;cases hv
def jV(o q:Obj):Bool:=bif o.id==q.id then bif aK o.uP q.uP then bif(bif aK o.x q.x then bif aK o.y q.y then true else false else false) then bif o.gE==q.gE then o.gT==q.gT else false else false else false else false
def alp(h16:sp 279=none)(h37:sp 70=some rU)(h38:sp 373=some zo)(ho:o.Al)(hq:q.Al)(s:St):aM (QS sp) 279 [o.val,q.val] s (.bool (jV o q)) s:=by
 have rcl:=ho.gE.aL;have tcl:=ho.gT.aL;have rcq:=hq.gE.aL;have tcq:=hq.gT.aL;have e1:=Dw ho.gE hq.gE ho.pr hq.pr ho.reflen;have e2:=aad ho.gT hq.gT ho.pt hq.pt ho.taglen;refine dz EW.1 EW.2 EW.3 EW.4 h16 ?_;refine aw ?_;simp only[ai,bv,bt,aa,ah,aG,aV,adm,Obj.val];refine aw ?_;have fin: ∀e' lc',aj e' 4= .bool (jV o q)->W (QS sp) 279 .ret ⟨e',38,lc'⟩ s fun x fr' s1=>s1=s/\(x= .normal\/x= .ret)/\ ∃vs,bW (QS sp) [] fr' s1 [.tmp 4]=some vs/\gG vs= .bool (jV o q):=fun e' lc' h=>bo ⟨rfl,.inr rfl,bz h rfl⟩;cases h1:o.id==q.id with
 |false=>
  simp only[ai,ax,ay,aa,ah,Obj.cells,h1];exact fin _ _ (by simp only[aq,aa,jV,h1])
 |true=>
 cases h2:aK o.uP q.uP with
 |false=>
  simp only[ai,ax,ay,aa,ah,Obj.cells,h1,h2];exact fin _ _ (by simp only[aq,aa,jV,h1,h2])
 |true=>
 cases h3:(bif aK o.x q.x then bif aK o.y q.y then true else false else false) with
 |false=>
  simp only[ai,ax,cut,aN,ay,aa,ah,aG,Obj.cells,h1,h2,mG,h3];exact fin _ _ (by simp only[aq,aa,jV,h1,h2,h3])
 |true=>
 cases h4:o.gE==q.gE with
 |false=>
  simp only[ai,ax,cut,aN,ay,aa,ah,aG,Obj.cells,rcl,rcq,h1,h2,mG,h3,h37,e1,h4];exact fin _ _ (by simp only[aq,aa,jV,h1,h2,h3,h4])
 |true=>
  simp only[ai,ax,cut,aN,ay,aa,ah,aG,Obj.cells,rcl,tcl,rcq,tcq,h1,h2,mG,h3,h37,e1,h4,h38,e2];exact fin _ _ (by simp only[aq,aa,jV,h1,h2,h3,h4])
def wH:Sp
 | [a,b]=>(iL a).bind fun o=>(iL b).bind fun q=>some (.bool (jV o q))
 |_=>none
def alo(h:o.Al)(h2:q.Al):wH [o.val,q.val]=some (.bool (jV o q)):=by
 simp only[wH,mm h,mm h2,bn]
def V1:du:=[(70,rU),(373,zo)]
def W9:dc V1:=.cons OU (.cons aae .nil)
def TQ:cq ar 279 wH:=by
 intro args u hv G h w xs wr hx;unfold wH at hv;split at hv;simp only[az,aP] at hv;obtain⟨o,ho,q,hq,rfl⟩:=hv;obtain⟨rfl,hg⟩:=lf ho;obtain⟨rfl,hg2⟩:=lf hq;have hp:pures [o.val,q.val]=true:=by simp only[pures,hg.pure,hg2.pure,cH]
 exact eA (Q:=QT V1) (ep W9) (fun _=>eH 1) (args:=[o.val,q.val]) (v:=.bool (jV o q)) (s':=s0) (kh hp) (by rw[gK hp];exact alp (sp:=fun f=>cI f V1) rfl rfl rfl hg hg2 s0) rfl ⟨1,rfl⟩ G h w xs wr hx;cases hv
def lk(a b:List UInt8):Bool:=decide (a<=b)
def xQ(x:List UInt8):List (List UInt8)->List (List UInt8)
 | []=>[x]
 |y::l=>bif Ag.leBytes x y then x::y::l else y::xQ x l
def eX:List (List UInt8)->List (List UInt8)
 | []=>[]
 |x::l=>xQ x (eX l)
def Ag.leBytes_iff(x y:List UInt8):Ag.leBytes x y=lk x y:=by
 have h:Ag.leBytes x y=(c8 x y||x==y):=rfl;rw[h,Go.Proofs.bytesLess_eq];apply Bool.eq_iff_iff.2;simp only[lk,sU,dE,bE];constructor;rintro(h|rfl);exact List.le_of_lt h;exact List.le_refl _;intro h;by_cases e:x=y;exact .inr e;exact .inl (Classical.byContradiction fun hc=>e (AK h (List.not_lt.1 hc)))
def JS(x:List UInt8): ∀l,(xQ x l).Perm (x::l)
 | []=>.refl _
 |y::l=>by
  simp only[xQ];cases Ag.leBytes x y with
  |true=>exact .refl _
  |false=>exact((JS x l).cons y).trans (.swap x y l)
def lr: ∀l,(eX l).Perm l
 | []=>.refl _
 |x::l=>(JS x _).trans ((lr l).cons x)
def FX(a b c:List UInt8)(h1:lk a b=true)(h2:lk b c=true):lk a c=true:=by
 simp only[lk,dE] at*;exact List.le_trans h1 h2
def FW(a b:List UInt8):(lk a b||lk b a)=true:=by
 simp only[lk,sU,dE];exact List.le_total a b
def PZ(x:List UInt8): ∀l,l.Pairwise (fun a b=>lk a b=true)->(xQ x l).Pairwise (fun a b=>lk a b=true)
 | [],_=>by simp[xQ]
 |y::l,h=>by
  simp only[xQ];cases e:Ag.leBytes x y with
  |true=>
   rw[Ag.leBytes_iff] at e;refine iT.2 ⟨fun z hz=>?_,h⟩;rcases cQ.1 hz with rfl|hz
   exact e;exact FX _ _ _ e ((iT.1 h).1 z hz)
  |false=>
   rw[Ag.leBytes_iff] at e;refine iT.2 ⟨fun z hz=>?_,PZ x l (iT.1 h).2⟩;rcases cQ.1 ((JS x l).mem_iff.1 hz) with rfl|hz
   have:=FW z y;rw[e,jd] at this;exact this;exact(iT.1 h).1 z hz
def Hh: ∀l,(eX l).Pairwise (fun a b=>lk a b=true)
 | []=>.nil
 |x::l=>PZ x _ (Hh l)
def Mh(l:List (List UInt8)):l.mergeSort (fun x y=>decide (x<=y))=eX l:=by
 refine List.Perm.eq_of_pairwise (le:=fun a b=>lk a b=true) (fun a b _ _ h1 h2=>?_) (HM FX FW l) (Hh l) ((HL l _).trans (lr l).symm);simp only[lk,dE] at h1 h2;exact AK h1 h2
def UY{r:List ak}(h:l.Perm r):eX l=eX r:=by
 rw[<-Mh,<-Mh];refine List.Perm.eq_of_pairwise (le:=fun a b=>lk a b=true) (fun a b _ _ h1 h2=>?_) (HM FX FW l) (HM FX FW r) (((HL l _).trans h).trans (HL r _).symm);simp only[lk,dE] at h1 h2;exact AK h1 h2
def BU:List ae->ae
 | []=>.AL
 |x::l=>.list 1 (x::l) .no
def dv:List UInt8->List UInt8->Int
 | [],[]=>0
 | [],_::_=> -1
 |_::_,[]=>1
 |a::x,b::y=>bif bk a.toNat b.toNat then-1 else bif bk b.toNat a.toNat then 1 else dv x y
def oU:Sp
 | [.str a,.str b]=>some (.int .i64 (dv a b))
 |_=>none
def ZK: ∀(a b:List UInt8),dv a b=Lib.compareBytes a b:=by
 intro a
 induction a with
 |nil=>intro b;cases b<;>rfl
 |cons u x ih=>
  intro b;cases b with
  |nil=>rfl
  |cons v y=>
   simp only[dv,Lib.compareBytes,UInt8.lt_iff_toNat_lt,jU,ih];by_cases h1:u.toNat<v.toNat;simp[h1];by_cases h2:v.toNat<u.toNat<;>simp[h1,h2]
def IL:cq ar 287 oU:=by
 intro args v hv G h w xs wr hx;unfold oU at hv;split at hv;rename_i a b;injection hv with hv;subst hv
 cases hx with
 |cons p q=>
  cases q with
  |cons q r=>
   cases r;cases p;cases q;refine .inl ⟨.int .i64 (Lib.compareBytes a b),w,?_,G,wr,.refl,?_⟩
   have:=run_callFunc_extern (P:=ar) (f:=287) (fn:=Tryz.f287) (e:=Extern.BytealgCompare.compare) (by kernel_rfl) (by kernel_rfl) (by kernel_rfl) (by kernel_rfl) (by kernel_rfl) #[.string ⟨⟨a⟩⟩,.string ⟨⟨b⟩⟩] w;rw[show(⟨[jO ⟨⟨a⟩⟩,.string ⟨⟨b⟩⟩]⟩:Array Value)= #[.string ⟨⟨a⟩⟩,.string ⟨⟨b⟩⟩] from rfl,this,Lib.run_compareString];rfl;rw[ZK];exact .int _ _
 cases hv
