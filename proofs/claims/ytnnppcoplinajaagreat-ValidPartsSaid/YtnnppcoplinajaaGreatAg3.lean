/- Lemmas for ValidParts. -/
import Derived.Test.YtnnppcoplinajaaGreatAg2
import Derived.Attr
import Derived.KernelRfl
set_option linter.all false
open Bool renaming and_eq_true→bm,and_true→mP,not_eq_true'→mQ,or_eq_true→vF,or_false→jG
open Go.Ag.cU renaming meets→xu
open List renaming all_eq_true→fu,append_nil→nD,cons_append→qW,getElem?_cons_succ→iJ,getElem?_cons_zero→gi,getElem?_eq_getElem→fE,length_append→cD,length_cons→dM,length_map→bP,length_nil→cV,mem_cons_self→gF,mem_cons→dl,mem_range→xF,nil_append→Bn,nodup_cons→Bo
open Nat renaming beq→aK,ble_eq_true_of_le→cE,ble→bn,blt→bh,eq_of_beq_eq_true→jr,le_of_ble_eq_true→fF,le_succ_of_le→bU,reduceBEq→ai,zero_add→eH
open Option renaming bind_eq_some_iff→aj,bind_some→bg,getD_some→zD,map_none→sD,map_some→jI
open Option.some renaming injEq→aH
open Prod.mk renaming injEq→bu
open Go.Ag.W renaming cond→jc,seq→cK,skip→lY
namespace Go.Ag
variable{fr:Fr}{N:Fr->Prop}{fn:Func}{bs:List Nat}{args:List aa}{l ops:List au}{rs:List eZ}{op:Op}{c sc:SC}{α:Type}{v:aa}{o:au}
section
variable{Q:aD}{f:FuncId}
def u6(x:Option (aa×Loc×St))(K:aa->Loc->St->Prop):Prop:=
 match x with
 |some (v,l,s)=>K v l s
 |none=>False
def aal(v:aa)(l:Loc)(s:St)(K:aa->Loc->St->Prop):u6 (some (v,l,s)) K=K v l s:=rfl
def aak(K:aa->Loc->St->Prop):u6 none K=False:=rfl
def WP(Q:aD)(f:FuncId)(ops:List au)(fr:Fr)(s:St)(N:Fr->St->Prop):Prop:= ∃j s',vk Q f ops fr s=some (j,s')/\N j s'
theorem DZ{s:St}{N:Fr->St->Prop}:WP Q f [] fr s N=N fr s:=by
 apply propext;constructor;rintro⟨j,s',h,q⟩
 grind [vk]
 exact fun h=>⟨fr,s,rfl,h⟩
theorem GU{s:St}{N:Fr->St->Prop}:WP Q f (o::l) fr s N=(∃j s1,sl Q f o fr s=some (j,s1)/\WP Q f l j s1 N):=by
 apply propext;constructor;rintro⟨q,s',h,u⟩;simp only[vk,aj] at h;obtain⟨⟨j,s1⟩,A,w⟩:=h;exact⟨j,s1,A,q,s',w,u⟩;rintro⟨j,s1,A,q,s',w,u⟩;refine⟨q,s',?_,u⟩;simp only[vk,A,bg,w]
theorem Ta{d:Tmp}{g:SG}{e:aw}{sz:Nat}{lc:Loc}{s:St}{N:Fr->St->Prop}(q:eY e g=true):
 WP Q f (⟨some d,op,g⟩::l) ⟨e,sz,lc⟩ s N=u6 (cw Q f ⟨some d,op,g⟩ [] ⟨e,sz,lc⟩ s) fun v j s'=>d<sz/\WP Q f l ⟨e.set d (some v),sz,j⟩ s' N:=by
 rw[GU];simp only[sl,q,cT];cases h:cw Q f ⟨some d,op,g⟩ [] ⟨e,sz,lc⟩ s with
 |none=>simp[u6]
 |some x=>
  grind [u6,cN,bh,cE,fF]
theorem Tb{g:SG}{e:aw}{sz:Nat}{lc:Loc}{s:St}{N:Fr->St->Prop}(q:eY e g=true):
 WP Q f (⟨none,op,g⟩::l) ⟨e,sz,lc⟩ s N=u6 (cw Q f ⟨none,op,g⟩ [] ⟨e,sz,lc⟩ s) fun _ j s'=>WP Q f l ⟨e,sz,j⟩ s' N:=by
 rw[GU];simp only[sl,q,cT];cases h:cw Q f ⟨none,op,g⟩ [] ⟨e,sz,lc⟩ s with
 |none=>simp[u6]
 |some x=>
  grind [u6,cN]
theorem Tc{d:Tmp}{g:SG}{e:aw}{sz:Nat}{lc:Loc}{s:St}{N:Fr->St->Prop}(j:eY e g=false):
 WP Q f (⟨some d,op,g⟩::l) ⟨e,sz,lc⟩ s N=(d<sz/\WP Q f l ⟨e.set d (some fN),sz,lc⟩ s N):=by
 rw[GU];simp only[sl,j,cF,cN]
 grind [bh,cE,fF]
theorem aeH{g:SG}{e:aw}{sz:Nat}{lc:Loc}{s:St}{N:Fr->St->Prop}(j:eY e g=false):
 WP Q f (⟨none,op,g⟩::l) ⟨e,sz,lc⟩ s N=WP Q f l ⟨e,sz,lc⟩ s N:=by
 grind [GU,sl,cN]
theorem iU(a b:Nat):aK a b=(a==b):=by
 grind [jr,Nat.ne_of_beq_eq_false]
theorem oc(a b:Nat):bh a b=decide (a<b):=by
 grind [bh,fF,cE]
def Je(a b:Nat):bn a b=decide (a<=b):=tG a b
theorem pE(k:IntKind)(n:Nat):dr (.int k (n:Int))=some n:=rfl
def kn:aa->Bool->Bool
 | .bool c,b=>c==b
 |_,_=>false
theorem pZ(e:aw)(t:Tmp)(b:Bool):eY e (.when t b)=kn (ac e t) b:=by
 show(match ac e t with| .bool c=>c==b|_=>false)=kn (ac e t) b;generalize ac e t=x;cases x<;>rfl
def adx:kn (.bool true) true=true:=rfl
def adw:kn (.bool true) false=false:=rfl
def adv:kn (.bool false) true=false:=rfl
def adu:kn (.bool false) false=true:=rfl
def ady(b:Bool):kn fN b=false:=rfl
def Qg:aa->Option aa->Option aa->Option aa
 | .bool true,a,_=>a
 | .bool false,_,b=>b
 |_,_,_=>none
def abt(e:aw)(c a b:Operand):AM e c a b=(ev e c).bind fun c=>Qg c (ev e a) (ev e b):=by
 unfold AM;cases ev e c with
 |none=>rfl
 |some v=>
  cases v<;>first|rfl|skip
  rename_i c;cases c<;>rfl
def abr(a b:Option aa):Qg (.bool true) a b=a:=rfl
def abq(a b:Option aa):Qg (.bool false) a b=b:=rfl
def Vs(e:aw)(x:Operand):evc e x=(ev e x).bind fun v=>bif v.ge then some v else none:=rfl
def QF(v:aa)(l:Loc)(s:St):eX (some v) l s=some (v,l,s):=rfl
def abV(v:aa)(l:Loc)(s:St):f8 (some (v,s)) l=some (v,l,s):=rfl
def abU(l:Loc)(s:St):nz (some s) l=some (fN,l,s):=rfl
def T8(P:Program)(t:TypeId)(a b:Int):dI P .lss t (.int .i64 a) (.int .i64 b)=some (.bool (aV a b)):=rfl
def T7(P:Program)(t:TypeId)(a b:Int):dI P .leq t (.int .i64 a) (.int .i64 b)=some (.bool (bV a b)):=rfl
def T6(P:Program)(t:TypeId)(a b:Int):dI P .gtr t (.int .i64 a) (.int .i64 b)=some (.bool (aV b a)):=rfl
def nP(P:Program)(t:TypeId)(a b:Int):dI P .geq t (.int .i64 a) (.int .i64 b)=some (.bool (bV b a)):=rfl
def T0(P:Program)(t:TypeId)(a b:Int):dI P .eql t (.int .i64 a) (.int .i64 b)=some (.bool (an a b)):=rfl
def T9(P:Program)(t:TypeId)(a b:Int):dI P .neq t (.int .i64 a) (.int .i64 b)=some (.bool (!an a b)):=rfl
def TZ(P:Program)(t:TypeId)(a b:Int):dI P .add t (.int .i64 a) (.int .i64 b)=some (.int .i64 (IntKind.i64.wrap (a+b))):=rfl
def Ua(P:Program)(t:TypeId)(a b:Int):dI P .sub t (.int .i64 a) (.int .i64 b)=some (.int .i64 (IntKind.i64.wrap (a-b))):=rfl
def Um(P:Program)(t:TypeId)(a b:Int):dI P .eql t (.int .u8 a) (.int .u8 b)=some (.bool (an a b)):=rfl
def Uo(P:Program)(t:TypeId)(a b:Int):dI P .neq t (.int .u8 a) (.int .u8 b)=some (.bool (!an a b)):=rfl
def Un(P:Program)(t:TypeId)(a b:Int):dI P .leq t (.int .u8 a) (.int .u8 b)=some (.bool (bV a b)):=rfl
def Ui(P:Program)(t:TypeId)(a b:List UInt8):dI P .eql t (.str a) (.str b)=some (.bool (a==b)):=rfl
def Ul(P:Program)(t:TypeId)(a b:List UInt8):dI P .neq t (.str a) (.str b)=some (.bool (!(a==b))):=rfl
def Uj(P:Program)(t:TypeId)(a b:List UInt8):dI P .leq t (.str a) (.str b)=some (.bool (leBytes a b)):=rfl
def Uk(P:Program)(t:TypeId)(a b:List UInt8):dI P .lss t (.str a) (.str b)=some (.bool (Op.bytesLess a b)):=rfl
def adk(b:Bool):A9 .not (.bool b)=some (.bool !b):=rfl
def Uc(P:Program)(mk:aI)(t:TypeId)(j:Bool)(x:aa)(s:St):je P mk .len [t] j [x] s=(iG P mk t x s).bind fun v=>some (v,s):=rfl
def Ub(P:Program)(mk:aI)(t j:TypeId)(q:Bool)(x y:aa)(s:St):je P mk .append [t,j] q [x,y] s=bif rH P j then fB P mk t x y q s else none:=rfl
def Wf(h:Tmp->Nat)(t:Tmp):oN h (some t)=h t:=rfl
def UN(b:Bool):(aa.bool b).ge=true:=rfl
def UQ(k:IntKind)(n:Int):(aa.int k n).ge=true:=rfl
def UY(b:List UInt8):(aa.str b).ge=true:=rfl
def UM(b:List aa):(aa.agg b).ge=true:=rfl
def UR(n:Nat)(b:List aa)(r:nL):(aa.list n b r).ge=true:=rfl
def UX(b:List aa):(aa.ro b).ge=true:=rfl
def UW(n o:Nat):(aa.ptr n o).ge=true:=rfl
def US(n:Nat):(aa.map n).ge=true:=rfl
def UV:(aa.AL).ge=true:=rfl
def UU:(aa.nilm).ge=true:=rfl
def UT:(aa.nilf).ge=true:=rfl
def zW(f:Fn)(a b:List aa):(aa.func f a b).ge=true:=rfl
theorem lK(cs:List aa):(aa.agg cs).cells=cs:=rfl
def UB(s:List UInt8):(aa.str s).cells=[.str s]:=rfl
def UA(k:IntKind)(n:Int):(aa.int k n).cells=[.int k n]:=rfl
def Uz(b:Bool):(aa.bool b).cells=[.bool b]:=rfl
def L1(n:Nat)(xs:List aa)(r:nL):(aa.list n xs r).cells=[.list n xs r]:=rfl
def acM(P:Program)(mk:aI)(t:TypeId)(l g off:Nat)(v:aa)(lc:Loc)(s:St):tR P mk t (.Ge l g off) v lc s=(df P t).bind fun n=>bif aK v.cells.length n&&bh 0 n then(lc.get l g).bind fun cs=>(eM cs off v.cells).bind fun j=>some (lc.set l g j,s) else none:=rfl
def ax{α:Type}(n:Nat)(enc:α->aa)(v:aa)(l:List α):Prop:=(v= .AL/\l=[])\/ ∃r,v= .list n (l.map enc) r
def ax.ge{n:Nat}{enc:α->aa}{l:List α}(h:ax n enc v l):v.ge=true:=by
 rcases h with⟨rfl,_⟩|⟨r,rfl⟩<;>rfl
theorem ax.scal{n:Nat}{enc:α->aa}{l:List α}(h:ax n enc v l):v.cells=[v]:=by
 rcases h with⟨rfl,_⟩|⟨r,rfl⟩<;>rfl
def ax.cs{n:Nat}{enc:α->aa}{l:List α}(h:ax n enc v l):v.ge=true/\v.cells=[v]:=⟨h.ge,h.scal⟩
def Z3{α:Type}(enc:α->aa): ∀(l:List α) (i:Nat) (a:α),l[i]? =some a->ng (l.map enc) i=enc a
 | [],i,a,h=>by simp at h
 |x::l,0,a,h=>by simp at h;subst h;rfl
 |x::l,i+1,a,h=>Z3 enc l i a (by simpa using h)
def ax.len{n:Nat}{enc:α->aa}{l:List α}(h:ax n enc v l){P:Program}{t:TypeId}(q: ∀mk s,iG P mk t .AL s=some (.int .i64 (0:Nat)))(j: ∀mk n xs r s,iG P mk t (.list n xs r) s=some (.int .i64 (xs:List aa).length))(mk:aI)(s:St):iG P mk t v s=some (.int .i64 (l.length:Nat)):=by
 rcases h with⟨rfl,rfl⟩|⟨r,rfl⟩
 rw[q];rfl;rw[j];simp
theorem ax.at{n:Nat}{enc:α->aa}{l:List α}(h:ax n enc v l){P:Program}{t:TypeId}(u: ∀lc m xs r i,ii P lc t (.list m xs r) i=(dr i).bind fun i=>bif aK m n&&bh i xs.length then some (.ro (ng xs i).cells) else none){i:Nat}{a:α}(q:l[i]? =some a)(lc:Loc)(k:IntKind):
 ii P lc t v (.int k (i:Int))=some (.ro (enc a).cells):=by
 have j:i<l.length:=by
  rcases Nat.lt_or_ge i l.length with h|h
  exact h
  grind
 rcases h with⟨rfl,rfl⟩|⟨r,rfl⟩
 simp at q;rw[u];simp only[pE,bg,Z3 enc l i a q,bP];have:bh i l.length=true:=cE j;simp[this]
theorem PR(e:aw)(t:Nat)(v:aa):ac (e.set t (some v)) t=v:=by simp[ac,P6]
theorem Jl(e:aw)(t u:Nat)(v:aa)(h:(u==t)=false):ac (e.set t (some v)) u=ac e u:=by
 grind [ac,aC.get_set]
theorem iV(e:aw)(t u:Nat)(v:aa):ac (e.set t (some v)) u=bif u==t then v else ac e u:=by
 grind [PR,Jl]
theorem gen_set(l:Loc)(t h u:Nat)(c:List aa):(l.set t h c).gen u=bif aK t u then h else l.gen u:=by
 induction l with
 |nil=>simp only[Loc.set,Loc.gen]
 |cons x l j=>
  grind [Loc.set,jr,Loc.gen]
def uM(t:Nat):Loc.gen [] t=0:=rfl
theorem ajD(l:Loc)(t h:Nat)(c:List aa):(l.set t h c).gen t=h:=by simp[gen_set]
theorem ajE(l:Loc)(t h u:Nat)(c:List aa)(e:(u==t)=false):(l.set t h c).gen u=l.gen u:=by
 grind [gen_set,jr]
theorem Ze(l:Loc)(t h u g:Nat)(c:List aa):(l.set t h c).get u g=bif aK t u then(bif aK h g then some c else none) else l.get u g:=by
 induction l with
 |nil=>simp only[Loc.set,Loc.get]
 |cons x l j=>
  grind [Loc.set,jr,Loc.get]
theorem aqJ(l:Loc)(t h u g:Nat)(c:List aa)(e:(u==t)=false):(l.set t h c).get u g=l.get u g:=by
 grind [Ze,jr]
theorem Zf(l:Loc)(t h j:Nat)(c c':List aa):(l.set t h c).set t j c'=l.set t j c':=by
 induction l with
 |nil=>simp[Loc.set]
 |cons x l q=>
  grind [Loc.set]
theorem gw(l:Loc)(t h u:Nat)(c:List aa):(l.set t h c).gen u=bif u==t then h else l.gen u:=by
 grind [ajD,ajE]
def gI(l:Loc)(t h u g:Nat)(c:List aa):(l.set t h c).get u g=bif u==t then(bif g==h then some c else none) else l.get u g:=by
 cases e:u==t with
 |true=>
  have:u=t:=by simpa using e
  subst this;rw[Ze];simp only[cT];cases e:g==h with
  |true=>simp_all
  |false=>
   have j:g≠h:=by simpa using e
   have:aK h g=false:=by
    cases e':aK h g with
    |false=>rfl
    |true=>simp_all
   simp[this]
 |false=>exact aqJ l t h u g c e
def J8(Q:aD)(f:FuncId)(d:Tmp)(e:aw)(sz:Nat)(l:List au)(N:Fr->St->Prop)(x:Option (aa×Loc×St)):Prop:=u6 x fun v j s'=>d<sz/\WP Q f l ⟨e.set d (some v),sz,j⟩ s' N
def J9(Q:aD)(f:FuncId)(e:aw)(sz:Nat)(l:List au)(N:Fr->St->Prop)(x:Option (aa×Loc×St)):Prop:=u6 x fun _ j s'=>WP Q f l ⟨e,sz,j⟩ s' N
def RP(Q:aD)(f:FuncId)(o:au)(d:Tmp)(e:aw)(sz:Nat)(lc:Loc)(s:St)(l:List au)(N:Fr->St->Prop):Bool->Prop
 |true=>J8 Q f d e sz l N (cw Q f o [] ⟨e,sz,lc⟩ s)
 |false=>d<sz/\WP Q f l ⟨e.set d (some fN),sz,lc⟩ s N
def RQ(Q:aD)(f:FuncId)(o:au)(e:aw)(sz:Nat)(lc:Loc)(s:St)(l:List au)(N:Fr->St->Prop):Bool->Prop
 |true=>J9 Q f e sz l N (cw Q f o [] ⟨e,sz,lc⟩ s)
 |false=>WP Q f l ⟨e,sz,lc⟩ s N
def Rn{d:Tmp}{e:aw}{sz:Nat}{N:Fr->St->Prop}{lc:Loc}{s:St}:J8 Q f d e sz l N (some (v,lc,s))=(d<sz/\WP Q f l ⟨e.set d (some v),sz,lc⟩ s N):=rfl
def acH{e:aw}{sz:Nat}{N:Fr->St->Prop}{lc:Loc}{s:St}:J9 Q f e sz l N (some (v,lc,s))=WP Q f l ⟨e,sz,lc⟩ s N:=rfl
def adC{d:Tmp}{e:aw}{sz:Nat}{lc:Loc}{s:St}{N:Fr->St->Prop}:RP Q f o d e sz lc s l N true=J8 Q f d e sz l N (cw Q f o [] ⟨e,sz,lc⟩ s):=rfl
def adB{d:Tmp}{e:aw}{sz:Nat}{lc:Loc}{s:St}{N:Fr->St->Prop}:RP Q f o d e sz lc s l N false=(d<sz/\WP Q f l ⟨e.set d (some fN),sz,lc⟩ s N):=rfl
def adA{e:aw}{sz:Nat}{lc:Loc}{s:St}{N:Fr->St->Prop}:RQ Q f o e sz lc s l N true=J9 Q f e sz l N (cw Q f o [] ⟨e,sz,lc⟩ s):=rfl
def adz{e:aw}{sz:Nat}{lc:Loc}{s:St}{N:Fr->St->Prop}:RQ Q f o e sz lc s l N false=WP Q f l ⟨e,sz,lc⟩ s N:=rfl
def KZ{d:Tmp}{e:aw}{sz:Nat}{lc:Loc}{s:St}{N:Fr->St->Prop}:
 WP Q f (⟨some d,op,.aw⟩::l) ⟨e,sz,lc⟩ s N=J8 Q f d e sz l N (cw Q f ⟨some d,op,.aw⟩ [] ⟨e,sz,lc⟩ s):=Ta rfl
def S9{e:aw}{sz:Nat}{lc:Loc}{s:St}{N:Fr->St->Prop}:
 WP Q f (⟨none,op,.aw⟩::l) ⟨e,sz,lc⟩ s N=J9 Q f e sz l N (cw Q f ⟨none,op,.aw⟩ [] ⟨e,sz,lc⟩ s):=Tb rfl
def aeG{d:Tmp}{e:aw}{sz:Nat}{lc:Loc}{s:St}{N:Fr->St->Prop}:
 WP Q f (⟨some d,op,.never⟩::l) ⟨e,sz,lc⟩ s N=(d<sz/\WP Q f l ⟨e.set d (some fN),sz,lc⟩ s N):=Tc rfl
def Td{d:Tmp}{t:Tmp}{b:Bool}{e:aw}{sz:Nat}{lc:Loc}{s:St}{N:Fr->St->Prop}:
 WP Q f (⟨some d,op,.when t b⟩::l) ⟨e,sz,lc⟩ s N=RP Q f ⟨some d,op,.when t b⟩ d e sz lc s l N (kn (ac e t) b):=by
 cases h:kn (ac e t) b with
 |true=>exact Ta (by rw[pZ,h])
 |false=>exact Tc (by rw[pZ,h])
def aeI{t:Tmp}{b:Bool}{e:aw}{sz:Nat}{lc:Loc}{s:St}{N:Fr->St->Prop}:
 WP Q f (⟨none,op,.when t b⟩::l) ⟨e,sz,lc⟩ s N=RQ Q f ⟨none,op,.when t b⟩ e sz lc s l N (kn (ac e t) b):=by
 cases h:kn (ac e t) b with
 |true=>exact Tb (by rw[pZ,h])
 |false=>exact aeH (by rw[pZ,h])
def W.reg{s:St}{K:Ex->Fr->St->Prop}(h:WP Q f ops fr s fun fr s=>K .normal fr s):W Q f (.region ops) fr s K:=
 let⟨_,_,h1,h2⟩:=h;W.region (WL.run h1 h2)
def W.sreg{s:St}{K:Ex->Fr->St->Prop}(h:WP Q f ops fr s fun fr s=>W Q f c fr s K):W Q f (.seq (.region ops) c) fr s K:=cK (W.reg h)
def fJ(K:Ex->Fr->St->Prop)(N:Fr->St->Prop):Ex.next K N .normal=N:=rfl
def PO(K:Ex->Fr->St->Prop)(N:Fr->St->Prop):Ex.next K N .ret=K .ret:=rfl
def ZS(K:Ex->Fr->St->Prop)(N:Fr->St->Prop)(i:Nat):Ex.next K N (.exit i)=K (.exit i):=rfl
def rq(i:Nat):Ex.block i .normal= .normal:=rfl
def LN(i:Nat):Ex.block i .ret= .ret:=rfl
def Uf(i j:Nat):Ex.block i (.exit j)=bif aK j i then .normal else .exit j:=rfl
section
variable{e:aw}{sz:Nat}{lc:Loc}{s:St}{d:Option Tmp}{g:SG}{mk:aI}
def abf(x:Operand):cw Q f ⟨d,.move x,g⟩ mk ⟨e,sz,lc⟩ s=eX (ev e x) lc s:=rfl
def P9(x:Operand):cw Q f ⟨d,.assign x,g⟩ mk ⟨e,sz,lc⟩ s=eX (ev e x) lc s:=rfl
def abh(c a b:Operand):cw Q f ⟨d,.pick c a b,g⟩ mk ⟨e,sz,lc⟩ s=eX (AM e c a b) lc s:=rfl
def aaZ(t:TypeId):cw Q f ⟨d,.alloc t,g⟩ mk ⟨e,sz,lc⟩ s=(dX Q.P t).bind fun z=>rt (oN (Q.hint f) d) d z.cells lc s:=rfl
def aa1(t:TypeId)(x:Operand):cw Q f ⟨d,.box t x,g⟩ mk ⟨e,sz,lc⟩ s=(evc e x).bind fun a=>rt (oN (Q.hint f) d) d a.cells lc s:=rfl
def aa2(t:TypeId)(ps:Array (Nat×Operand)):cw Q f ⟨d,.build t ps,g⟩ mk ⟨e,sz,lc⟩ s=eX (sS Q.P t ps.toList e) lc s:=rfl
def aa3(t:TypeId)(n:Nat)(ps:Array (Nat×Operand)):cw Q f ⟨d,.buildSlice t n ps,g⟩ mk ⟨e,sz,lc⟩ s=f8 (bj Q.P t n ps.toList (aK (oN (Q.hint f) d) 2) e s) lc:=rfl
def abb(t:TypeId)(a:Operand):cw Q f ⟨d,.load t a,g⟩ mk ⟨e,sz,lc⟩ s=(ev e a).bind fun a=>eX (lM Q.P mk t a lc s) lc s:=rfl
def abi(t:TypeId)(a x:Operand):cw Q f ⟨d,.store t a x,g⟩ mk ⟨e,sz,lc⟩ s=(ev e a).bind fun a=>(evc e x).bind fun x=>(tR Q.P mk t a x lc s).bind fun r=>some (fN,r.1,r.2):=rfl
def aa0(o:BinOp)(t u:TypeId)(x y:Operand):cw Q f ⟨d,.binOp o t x y u,g⟩ mk ⟨e,sz,lc⟩ s=(evc e x).bind fun x=>(evc e y).bind fun y=>eX (dI Q.P o t x y) lc s:=rfl
def abj(o:UnOp)(t:TypeId)(x:Operand):cw Q f ⟨d,.unOp o t x,g⟩ mk ⟨e,sz,lc⟩ s=(evc e x).bind fun a=>eX (A9 o a) lc s:=rfl
def aa7(t:TypeId)(x:Operand)(i:Nat):cw Q f ⟨d,.field t x i,g⟩ mk ⟨e,sz,lc⟩ s=(evc e x).bind fun a=>eX (wt Q.P t a i) lc s:=rfl
def aa8(t:TypeId)(x:Operand)(i:Nat):cw Q f ⟨d,.fieldAddr t x i,g⟩ mk ⟨e,sz,lc⟩ s=(ev e x).bind fun a=>eX (sY Q.P lc t a i) lc s:=rfl
def aa9(t:TypeId)(x i:Operand):cw Q f ⟨d,.index t x i,g⟩ mk ⟨e,sz,lc⟩ s=(evc e x).bind fun x=>(ev e i).bind fun i=>eX (Ak Q.P t x i) lc s:=rfl
def aba(t:TypeId)(x i:Operand):cw Q f ⟨d,.indexAddr t x i,g⟩ mk ⟨e,sz,lc⟩ s=(ev e x).bind fun x=>(ev e i).bind fun i=>eX (ii Q.P lc t x i) lc s:=rfl
def Qd(t:TypeId)(x:Operand)(lo q j:Option Operand):cw Q f ⟨d,.slice t x lo q j,g⟩ mk ⟨e,sz,lc⟩ s=(evc e x).bind fun a=>eX (iZ Q.P mk t a lo q j e s) lc s:=rfl
def abc(t:TypeId)(x i:Operand)(j:Bool):cw Q f ⟨d,.lookup t x i j,g⟩ mk ⟨e,sz,lc⟩ s=(evc e x).bind fun x=>(evc e i).bind fun i=>eX (n8 Q.P mk t x i j s) lc s:=rfl
def Qe(t:TypeId)(m k x:Operand):cw Q f ⟨d,.mapUpdate t m k x,g⟩ mk ⟨e,sz,lc⟩ s=(evc e m).bind fun m=>(evc e k).bind fun k=>(evc e x).bind fun x=>nz (qV Q.P mk t m k x s) lc:=rfl
def abe(t:TypeId)(r:Option Operand):cw Q f ⟨d,.makeMap t r,g⟩ mk ⟨e,sz,lc⟩ s=f8 (mz Q.P t e r s) lc:=rfl
def abd(fn:Fn)(a b:Array Operand):cw Q f ⟨d,.makeFunc fn a b,g⟩ mk ⟨e,sz,lc⟩ s=eX (pD e fn a b) lc s:=rfl
def abg(x:Operand):cw Q f ⟨d,.nilCheck x,g⟩ mk ⟨e,sz,lc⟩ s=(ev e x).bind fun a=>eX (wP lc a) lc s:=rfl
def aa6(x:Operand)(i:Nat):cw Q f ⟨d,.extract x i,g⟩ mk ⟨e,sz,lc⟩ s=(ev e x).bind fun a=>eX (ew i a) lc s:=rfl
def aa4(b:Builtin)(as:Array Operand)(ts:Array TypeId):cw Q f ⟨d,.call ⟨.builtin b,as,ts⟩,g⟩ mk ⟨e,sz,lc⟩ s=
 (evcs e as.toList).bind fun args=>f8 (je Q.P mk b ts.toList (aK (oN (Q.hint f) d) 2) args s) lc:=rfl
def aa5(x:Operand)(as:Array Operand)(ts:Array TypeId):cw Q f ⟨d,.call ⟨.value x,as,ts⟩,g⟩ mk ⟨e,sz,lc⟩ s=
 (callee e ⟨.value x,as,ts⟩).bind fun g=>(Q.spec g.1).bind fun sp=>(sp g.2).bind fun v=>some (v,lc,s):=rfl
def Uv(n:FuncId)(as:Array Operand)(ts:Array TypeId):callee e ⟨.value (.func n),as,ts⟩=(evcs e as.toList).bind fun args=>some (n,args):=by
 simp only[callee,ev,bg,Bn,nD]
end
def dR(e:aw)(t:Nat):ev e (.tmp t)=some (ac e t):=rfl
def My(e:aw)(v:Value):ev e (.const v)=ofValue v:=rfl
def Vr(e:aw)(n:FuncId):ev e (.func n)=some (.func (.func n) [] []):=rfl
def Vu(e:aw):evcs e []=some []:=rfl
def Vt(e:aw)(x:Operand)(l:List Operand):evcs e (x::l)=(evc e x).bind fun v=>(evcs e l).bind fun r=>some (v::r):=rfl
def rR(b:Bool):ofValue (.bool b)=some (.bool b):=rfl
def ni(k:IntKind)(n:Int):ofValue (.int k n)=some (.int k n):=rfl
def FE(s:Array UInt8):ofValue (.string ⟨s⟩)=some (.str s.toList):=rfl
def Uh(t:Tmp)(cs:List aa)(lc:Loc)(s:St):rt 1 (some t) cs lc s=some (.Ge t (lc.gen t+1) 0,lc.set t (lc.gen t+1) cs,s):=rfl
def Ug(d:Option Tmp)(cs:List aa)(lc:Loc)(s:St):rt 0 d cs lc s=some (.ptr s.aL 0,lc,s.new (.cells cs)):=rfl
def Y7(P:Program)(mk:aI)(t:TypeId)(l g off:Nat)(lc:Loc)(s:St):lM P mk t (.Ge l g off) lc s=(lc.get l g).bind fun cs=>iq P t cs off:=rfl
def I6(P:Program)(mk:aI)(t:TypeId)(cs:List aa)(lc:Loc)(s:St):lM P mk t (.ro cs) lc s=iq P t cs 0:=rfl
def yj(a b:Nat):aV (a:Int) (b:Int)=decide (a<b):=by simp[aV]
def HF(a b:Nat):bV (a:Int) (b:Int)=decide (a<=b):=by simp[bV]
theorem Ce(a b:Nat):an (a:Int) (b:Int)=(a==b):=by
 grind [an]
theorem jE{z:Int}(q: -9223372036854775808<=z)(j:z<9223372036854775808):IntKind.i64.wrap z=z:=by
 rw[IntKind.wrap_i64];omega
def St.top(s:St):St:=⟨s.heap,s.aL,s.aL,s.ci⟩
def WQ(Q:aD)(f:FuncId)(s:St):List au->Fr->(Fr->Prop)->Prop
 | [],fr,N=>N fr
 |o::l,fr,N=>(eY fr.env o.g=true/\ ∃v lc j,cw Q f o [] fr s=some (v,lc,s)/\isStore o.op=false/\cN fr o.dst v lc=some j/\WQ Q f s l j N)\/
   (eY fr.env o.g=false/\ ∃j,cN fr o.dst fN fr.loc=some j/\WQ Q f s l j N)
def calm(rs:List eZ):Prop:= ∀r∈rs,r.c0=r.c1/\r.loud=false
def Zw(h:calm rs)(b:Nat):iH b rs []=[]:=by
 induction rs with
 |nil=>rfl
 |cons r rs j=>
  have:=h r (by simp);simp only[iH,this.1,iU,bS,Bool.or_true,cT];exact j fun r q=>h r (by simp[q])
def VG(h:calm rs)(b:Nat)(ft:cU):pw b ft false rs=true:=by
 simp only[pw,fu];intro r j;simp[(h r j).2]
def WQ.draw{s:St}(w:s.gt<=s.aL): ∀ {l:List au} {bs:List Nat} {rs:List eZ} {i:Nat} {fr:Fr} {N:Fr->Prop},calm rs->WQ Q f s.top l fr N-> ∃j,yY Q f bs rs i l fr s=some (j,s)/\N j
 | [],bs,rs,i,fr,N,_,h=>⟨fr,rfl,h⟩
 |o::l,bs,rs,i,fr,N,hc,h=>by
  simp only[yY];rcases h with⟨q,v,lc,j,D,G,B,A⟩|⟨q,j,B,A⟩
  rw[q,Zw hc];have D:cw Q f o [] fr ⟨s.heap,s.aL,s.aL,s.ci⟩=some (v,lc,⟨s.heap,s.aL,s.aL,s.ci⟩):=D;simp only[cT,D,bg,G,jG];have F:bh s.aL s.aL=false:=by rw[oc];simp
  have E:s.Gt ⟨s.heap,s.aL,s.aL,s.ci⟩=s:=by
   have:bn s.gt s.aL=true:=cE w;simp[St.Gt,this]
  rw[F,VG hc,iU,bS];simp only[mP,cT,B,bg,E];exact WQ.draw w (fun r u=>by
   rcases dl.1 u with rfl|u
   exact⟨rfl,rfl⟩;exact hc r u) A
  rw[q];simp only[cF,B,bg];exact WQ.draw w hc A
def W.drawQ{s:St}{K:Ex->Fr->St->Prop}(u:s.gt<=s.aL)(h:WQ Q f s.top ops fr fun j=>K .normal j s):W Q f (.draw ops bs) fr s K:=
 let⟨_,h1,h2⟩:=WQ.draw u (fun _ q=>by cases q) h;W.draw h1 h2
def W.sdrawQ{s:St}{K:Ex->Fr->St->Prop}(q:s.gt<=s.aL)(h:WQ Q f s.top ops fr fun j=>W Q f c j s K):W Q f (.seq (.draw ops bs) c) fr s K:=cK (W.drawQ q h)
def Ka(Q:aD)(f:FuncId)(s:St)(d:Tmp)(j:Bool)(e:aw)(sz:Nat)(l:List au)(N:Fr->Prop)(x:Option (aa×Loc×St)):Prop:= ∃v lc,x=some (v,lc,s)/\j=false/\d<sz/\WQ Q f s l ⟨e.set d (some v),sz,lc⟩ N
theorem acI{s:St}{d:Tmp}{j:Bool}{e:aw}{sz:Nat}{lc:Loc}:Ka Q f s d j e sz l N (some (v,lc,s))=(j=false/\d<sz/\WQ Q f s l ⟨e.set d (some v),sz,lc⟩ N):=by
 apply propext;constructor;rintro⟨B,A,h,w,u,q⟩
 grind
 rintro⟨w,u,q⟩;exact⟨v,lc,rfl,w,u,q⟩
def RR(Q:aD)(f:FuncId)(s:St)(o:au)(d:Tmp)(e:aw)(sz:Nat)(lc:Loc)(l:List au)(N:Fr->Prop):Bool->Prop
 |true=>Ka Q f s d (isStore o.op) e sz l N (cw Q f o [] ⟨e,sz,lc⟩ s)
 |false=>d<sz/\WQ Q f s l ⟨e.set d (some fN),sz,lc⟩ N
def adF{s:St}{d:Tmp}{e:aw}{sz:Nat}{lc:Loc}:RR Q f s o d e sz lc l N true=Ka Q f s d (isStore o.op) e sz l N (cw Q f o [] ⟨e,sz,lc⟩ s):=rfl
def adE{s:St}{d:Tmp}{e:aw}{sz:Nat}{lc:Loc}:RR Q f s o d e sz lc l N false=(d<sz/\WQ Q f s l ⟨e.set d (some fN),sz,lc⟩ N):=rfl
theorem fU{e:aw}{sz:Nat}{lc:Loc}{d:Tmp}{lc':Loc}{j:Fr}:cN ⟨e,sz,lc⟩ (some d) v lc'=some j↔d<sz/\j=⟨e.set d (some v),sz,lc'⟩:=by
 grind [cN,oc]
def Tg{s:St}:WQ Q f s [] fr N=N fr:=rfl
def Tf{s:St}{d:Tmp}{e:aw}{sz:Nat}{lc:Loc}:
 WQ Q f s (⟨some d,op,.aw⟩::l) ⟨e,sz,lc⟩ N=Ka Q f s d (isStore op) e sz l N (cw Q f ⟨some d,op,.aw⟩ [] ⟨e,sz,lc⟩ s):=by
 apply propext;constructor;rintro(⟨_,v,j,E,A,w,D,u⟩|⟨B,_⟩);obtain⟨q,rfl⟩:=fU.1 D;exact⟨v,j,A,w,q,u⟩;cases B;rintro⟨v,j,A,w,q,u⟩;exact .inl ⟨rfl,v,j,_,A,w,fU.2 ⟨q,rfl⟩,u⟩
theorem Tk{s:St}{d:Tmp}{t:Tmp}{b:Bool}{e:aw}{sz:Nat}{lc:Loc}:
 WQ Q f s (⟨some d,op,.when t b⟩::l) ⟨e,sz,lc⟩ N=RR Q f s ⟨some d,op,.when t b⟩ d e sz lc l N (kn (ac e t) b):=by
 apply propext;constructor;rintro(⟨j,v,q,E,D,B,A,w⟩|⟨j,E,A,w⟩);have j:eY e (.when t b)=true:=j;rw[pZ] at j;obtain⟨u,rfl⟩:=fU.1 A;rw[j];exact⟨v,q,D,B,u,w⟩;have j:eY e (.when t b)=false:=j;rw[pZ] at j;obtain⟨u,rfl⟩:=fU.1 A;rw[j];exact⟨u,w⟩;intro h;cases j:kn (ac e t) b with
 |true=>
  rw[j] at h;obtain⟨v,q,D,B,u,w⟩:=h;exact .inl ⟨by grind [pZ],v,q,_,D,B,fU.2 ⟨u,rfl⟩,w⟩
 |false=>
  rw[j] at h;exact .inr ⟨by grind [pZ],_,fU.2 ⟨h.1,rfl⟩,h.2⟩
def aq.of2{n:Nat}{rs:List ResultVar}{s s':St}(B:Q.P.funcs[f]? =some fn)(j:fn.body.map dJ=some sc)(A:fn.ntmps=n)(w:fn.results.toList=rs)(q:Q.spec f=none)(h:W Q f sc (fZ n args) s fun x u s1=>s1=s'/\(x= .normal\/x= .ret)/\ ∃vs,iu Q [] u s1 rs=some vs/\nq vs=v)(E:Q.specH f=none:=by rfl)(D:Q.specW f=none:=by rfl):aq Q f args s v s':=by
 cases hb:fn.body with
 |none=>rw[hb] at j;cases j
 |some c=>
  rw[hb] at j;simp only[jI,aH] at j;subst A;subst w;exact aq.of B hb q j h E D
def dK{s:St}{t:Tmp}(h:ac fr.env t=v)(j:v.ge=true): ∃vs,iu Q [] fr s [.tmp t]=some vs/\nq vs=v:=by
 refine⟨[v],?_,rfl⟩;simp only[iu,FZ,evc,ev,h,bg,j,cT]
theorem Zv{b:Nat}(h: ∀r∈rs,b.testBit r.i=true\/r.c0=r.c1):iH b rs []=[]:=by
 induction rs with
 |nil=>rfl
 |cons r rs j=>
  grind [PK,iH]
theorem ai2{b:Nat}{ft:cU}{loud:Bool}(h: ∀r∈rs,b.testBit r.i=true):pw b ft loud rs=true:=by
 grind [pw]
def m8{s:St}(j:s.gt<=s.aL):s.Gt s.top=s:=by
 simp_all [cE,St.Gt,St.top]
theorem ap4{s:St}(j:s.gt<=s.aL)(o:aJ):s.Gt (s.top.new o)=s.new o:=by
 grind [cE,St.Gt,St.top,St.new]
def W.drawR{fr1:Fr}{s s1:St}{K:Ex->Fr->St->Prop}(h:kw Q f bs [] 0 ops fr s fr1 s1)(hk:K .normal fr1 s1):W Q f (.draw ops bs) fr s K:=⟨_,_,_,.draw h,hk⟩
theorem WQ.thenD{s:St}(F:s.gt<=s.aL){l2:List au}{N:Fr->St->Prop}: ∀ {l1:List au} {bs:List Nat} {rs:List eZ} {i:Nat} {fr:Fr},calm rs->(∀r∈rs,r.i<i)->
 WQ Q f s.top l1 fr (fun I=> ∀q,calm q->(∀r∈q,r.i<i+l1.length)-> ∃j s',kw Q f (bs.drop l1.length) q (i+l1.length) l2 I s j s'/\N j s')-> ∃j s',kw Q f bs rs i (l1++l2) fr s j s'/\N j s'
 | [],bs,rs,i,fr,hc,hi,h=>h rs hc hi
 |o::l,bs,rs,i,fr,hc,hi,h=>by
  have G: ∀(bs:List Nat) (n:Nat),bs.tail.drop n=bs.drop (n+1):=fun bs n=>by cases bs<;>simp
  rcases h with⟨E,v,lc,j,S,O,H,M⟩|⟨E,j,H,M⟩
  have J:(bh s.top.gt s.aL||isStore o.op)=false:=by
   rw[O,jG,oc];exact dN (by show¬s.aL<s.aL;omega)
  obtain⟨u,A,D,B⟩:=WQ.thenD (l2:=l2) (N:=N) F (l1:=l) (bs:=bs.tail) (rs:=⟨i,s.aL,s.aL,bD (Q.hint f) o.dst fr.env o.op,false⟩::rs) (i:=i+1) (fr:=j)
   (fun r w=>by
    rcases dl.1 w with rfl|w
    exact⟨rfl,rfl⟩;exact hc r w) (fun r w=>by
    grind) (by
    grind)
  refine⟨u,A,.step E (v:=v) (lc:=lc) (s1:=s.top) ?_ (by rw[J];exact VG hc _ _) rfl H ?_,B⟩;rw[Zw hc];exact S;rw[J,m8 F];exact D;obtain⟨u,A,D,B⟩:=WQ.thenD (l2:=l2) (N:=N) F (l1:=l) (bs:=bs.tail) (rs:=rs) (i:=i+1) (fr:=j) hc (fun r w=>Nat.lt_succ_of_lt (hi r w)) (by
   grind)
  exact⟨u,A,.skip E H D,B⟩
end
def iX:Code->List (Code×Code)
 | .seq a b=>iX a++iX b
 | .cond _ a b=>iX a++iX b
 | .block _ b=>iX b
 | .scope b=>iX b
 | .loop b=>iX b
 | .rangeFunc _ _ a b=>iX a++(iX b++[(a,b)])
 |_=>[]
variable{a:SC}{s':St}
section
variable{Q:aD}{f:FuncId}
def te(i b:Nat):Bool:=b % 2 ^ i==2 ^ i-1
theorem ajs{i b:Nat}(h:te i b=true): ∀j,j<i->b.testBit j=true:=by
 intro j q;have u:b % 2 ^ i=2 ^ i-1:=eq_of_beq h;have w:(b % 2 ^ i).testBit j=true:=by rw[u,Nat.testBit_two_pow_sub_one];exact dQ q
 grind
def RD:Nat->List Nat->Nat×Bool
 |_,[]=>(0,true)
 |i,b::l=>match RD (i+1) l with
  |(k,true)=>bif te i b then(k+1,true) else(k,false)
  |(k,false)=>(k,false)
def fe(bs:List Nat):Nat×List Nat:=(bs.length-(RD 0 bs).1,bs.drop (bs.length-(RD 0 bs).1))
def WT(Q:aD)(f:FuncId):Nat->List Nat->List au->Fr->St->(Fr->St->Prop)->Prop
 |_,_,[],fr,s,N=>N fr s
 |_,[],_::_,_,_,_=>False
 |i,b::bs,o::l,fr,s,N=>te i b=true/\((eY fr.env o.g=true/\ ∃v lc s1 j,cw Q f o [] fr s.top=some (v,lc,s1)/\s1.ci=s.ci/\cN fr o.dst v lc=some j/\WT Q f (i+1) bs l j (s.Gt s1) N)\/
  (eY fr.env o.g=false/\ ∃j,cN fr o.dst fN fr.loc=some j/\WT Q f (i+1) bs l j s N))
theorem WT.run: ∀ {l:List au} {i:Nat} {bs:List Nat} {rs:List eZ} {fr:Fr} {s:St} {N:Fr->St->Prop},(∀r∈rs,r.i<i)->WT Q f i bs l fr s N-> ∃j s',kw Q f bs rs i l fr s j s'/\N j s'
 | [],i,bs,rs,fr,s,N,_,h=>⟨fr,s,.nil,by cases bs<;>exact h⟩
 |o::l,i,[],rs,fr,s,N,_,h=>h.elim
 |o::l,i,b::bs,rs,fr,s,N,hi,h=>by
  obtain⟨B,h⟩:=h;have B:=ajs B;rcases h with⟨A,v,lc,s1,F,H,G,E,D⟩|⟨A,F,E,D⟩
  obtain⟨j,s',w,u⟩:=WT.run (rs:=⟨i,s.aL,s1.aL,bD (Q.hint f) o.dst fr.env o.op,bh s1.gt s.aL||isStore o.op⟩::rs) (fun r q=>by
   grind) D
  refine⟨j,s',.step A (v:=v) (lc:=lc) (s1:=s1) ?_ (ai2 fun r q=>B _ (hi r q)) G E w,u⟩;show cw Q f o (iH b rs []) fr s.top=_
  grind [Zv]
  obtain⟨j,s',w,u⟩:=WT.run (rs:=rs) (fun r q=>Nat.lt_succ_of_lt (hi r q)) D;exact⟨j,s',.skip A E w,u⟩
def Gi(Q:aD)(f:FuncId)(i:Nat)(bs:List Nat)(d:Tmp)(e:aw)(sz:Nat)(s:St)(l:List au)(N:Fr->St->Prop)(x:Option (aa×Loc×St)):Prop:= ∃v lc s1,x=some (v,lc,s1)/\s1.ci=s.ci/\d<sz/\WT Q f (i+1) bs l ⟨e.set d (some v),sz,lc⟩ (s.Gt s1) N
def acJ(Q:aD)(f:FuncId)(i:Nat)(bs:List Nat)(e:aw)(sz:Nat)(s:St)(l:List au)(N:Fr->St->Prop)(x:Option (aa×Loc×St)):Prop:= ∃v lc s1,x=some (v,lc,s1)/\s1.ci=s.ci/\WT Q f (i+1) bs l ⟨e,sz,lc⟩ (s.Gt s1) N
section
variable{i b:Nat}{bs:List Nat}{d:Tmp}{op:Op}{l:List au}{e:aw}{sz:Nat}{lc:Loc}{s s1:St}{N:Fr->St->Prop}{v:aa}{t:Tmp}{c:Bool}
theorem acL:Gi Q f i bs d e sz s l N (some (v,lc,s1))=(s1.ci=s.ci/\d<sz/\WT Q f (i+1) bs l ⟨e.set d (some v),sz,lc⟩ (s.Gt s1) N):=by
 apply propext;constructor;rintro⟨A,w,s',h,u,q,j⟩
 grind
 rintro⟨u,q,j⟩;exact⟨v,lc,s1,rfl,u,q,j⟩
theorem acK:acJ Q f i bs e sz s l N (some (v,lc,s1))=(s1.ci=s.ci/\WT Q f (i+1) bs l ⟨e,sz,lc⟩ (s.Gt s1) N):=by
 apply propext;constructor;rintro⟨w,u,s',h,q,j⟩
 grind
 rintro⟨q,j⟩;exact⟨v,lc,s1,rfl,q,j⟩
def K4:WT Q f i bs [] fr s N=N fr s:=by cases bs<;>rfl
def Tn:WT Q f i (b::bs) (⟨some d,op,.aw⟩::l) ⟨e,sz,lc⟩ s N=(te i b=true/\Gi Q f i bs d e sz s l N (cw Q f ⟨some d,op,.aw⟩ [] ⟨e,sz,lc⟩ s.top)):=by
 apply propext;constructor;rintro⟨u,⟨_,v,j,s1,F,B,A,E,w⟩|⟨D,_⟩⟩;obtain⟨q,rfl⟩:=fU.1 E;exact⟨u,v,j,s1,B,A,q,w⟩;cases D;rintro⟨u,v,j,s1,B,A,q,w⟩;exact⟨u,.inl ⟨rfl,v,j,s1,_,B,A,fU.2 ⟨q,rfl⟩,w⟩⟩
def Tp:WT Q f i (b::bs) (⟨none,op,.aw⟩::l) ⟨e,sz,lc⟩ s N=(te i b=true/\acJ Q f i bs e sz s l N (cw Q f ⟨none,op,.aw⟩ [] ⟨e,sz,lc⟩ s.top)):=by
 apply propext;constructor;rintro⟨q,⟨_,v,j,s1,D,B,A,w,u⟩|⟨E,_⟩⟩;have w:D=⟨e,sz,j⟩:=(sI w).symm;subst w;exact⟨q,v,j,s1,B,A,u⟩;cases E;rintro⟨q,v,j,s1,B,A,u⟩;exact⟨q,.inl ⟨rfl,v,j,s1,_,B,A,rfl,u⟩⟩
end
def ada(s:St):s.top.ci=s.ci:=rfl
def awP(s:St):s.top.aL=s.aL:=rfl
def RS(Q:aD)(f:FuncId)(i:Nat)(bs:List Nat)(o:au)(d:Tmp)(e:aw)(sz:Nat)(lc:Loc)(s:St)(l:List au)(N:Fr->St->Prop):Bool->Prop
 |true=>Gi Q f i bs d e sz s l N (cw Q f o [] ⟨e,sz,lc⟩ s.top)
 |false=>d<sz/\WT Q f (i+1) bs l ⟨e.set d (some fN),sz,lc⟩ s N
section
variable{i b:Nat}{bs:List Nat}{d:Tmp}{op:Op}{o:au}{l:List au}{e:aw}{sz:Nat}{lc:Loc}{s s1:St}{N:Fr->St->Prop}{v:aa}{t:Tmp}{c:Bool}
def adH:RS Q f i bs o d e sz lc s l N true=Gi Q f i bs d e sz s l N (cw Q f o [] ⟨e,sz,lc⟩ s.top):=rfl
def adG:RS Q f i bs o d e sz lc s l N false=(d<sz/\WT Q f (i+1) bs l ⟨e.set d (some fN),sz,lc⟩ s N):=rfl
theorem Tq:WT Q f i (b::bs) (⟨some d,op,.when t c⟩::l) ⟨e,sz,lc⟩ s N=(te i b=true/\RS Q f i bs ⟨some d,op,.when t c⟩ d e sz lc s l N (kn (ac e t) c)):=by
 apply propext;constructor;rintro⟨w,⟨j,v,q,s1,D,F,E,B,A⟩|⟨j,D,B,A⟩⟩;have j:eY e (.when t c)=true:=j;rw[pZ] at j;obtain⟨u,rfl⟩:=fU.1 B;rw[j];exact⟨w,v,q,s1,F,E,u,A⟩;have j:eY e (.when t c)=false:=j;rw[pZ] at j;obtain⟨u,rfl⟩:=fU.1 B;rw[j];exact⟨w,u,A⟩;rintro⟨w,h⟩;refine⟨w,?_⟩;cases j:kn (ac e t) c with
 |true=>
  rw[j] at h;obtain⟨v,q,s1,F,E,u,A⟩:=h
  grind [pZ,fU]
 |false=>
  rw[j] at h;exact .inr ⟨by grind [pZ],_,fU.2 ⟨h.1,rfl⟩,h.2⟩
end
theorem lL(s s1:St)(mk:aI)(n:Nat):(s.Gt s1).get mk n=s1.get mk n:=rfl
theorem pB{s s1:St}(j:s.gt<=s.aL)(q:s.aL<=s1.aL):(s.Gt s1).gt<=(s.Gt s1).aL:=by
 show(bif bn s.gt s1.gt then s.gt else s1.gt)<=s1.aL
 grind [cE]
def WQ.mono{s:St}{N A:Fr->Prop}(h: ∀fr,N fr->A fr): ∀ {l:List au} {fr:Fr},WQ Q f s l fr N->WQ Q f s l fr A
 | [],fr,j=>h fr j
 |o::l,fr,j=>by
  rcases j with⟨j,v,lc,q,D,B,w,u⟩|⟨j,q,w,u⟩
  exact .inl ⟨j,v,lc,q,D,B,w,WQ.mono h u⟩;exact .inr ⟨j,q,w,WQ.mono h u⟩
def WF(Q:aD)(f:FuncId):SC->Fr->St->(Ex->Fr->St->Prop)->Prop
 | .skip,fr,s,K=>K .normal fr s
 | .ret,fr,s,K=>K .ret fr s
 | .exit id,fr,s,K=>K (.exit id) fr s
 | .seq a b,fr,s,K=>WF Q f a fr s (Ex.next K fun fr s=>WF Q f b fr s K)
 | .cond o a b,fr,s,K=>(ev fr.env o=some (.bool true)/\WF Q f a fr s K)\/(ev fr.env o=some (.bool false)/\WF Q f b fr s K)
 | .block id b,fr,s,K=>WF Q f b fr s fun x=>K (x.block id)
 | .scope b,fr,s,K=>WF Q f b fr s K
 | .region ops,fr,s,K=>WP Q f ops fr s fun fr s=>K .normal fr s
 | .draw ops bs,fr,s,K=>s.gt<=s.aL/\WQ Q f s.top (ops.take (fe bs).1) fr fun j=>WT Q f (fe bs).1 (fe bs).2 (ops.drop (fe bs).1) j s fun fr s=>K .normal fr s
 | .loop b,fr,s,K=>W Q f (.loop b) fr s K
 | .rfun g ps a b,fr,s,K=>W Q f (.rfun g ps a b) fr s K
 | .bad,fr,s,K=>W Q f .bad fr s K
def WF.sound: ∀ {c:SC} {fr:Fr} {s:St} {K:Ex->Fr->St->Prop},WF Q f c fr s K->W Q f c fr s K
 | .skip,_,_,_,h=>lY h
 | .ret,_,_,_,h=>W.ret h
 | .exit _,_,_,_,h=>W.exit h
 | .seq a b,fr,s,K,h=>cK ((WF.sound (c:=a) h).mono fun x fr s D=>by
  cases x with
  |normal=>exact WF.sound (c:=b) D
  |exit i=>exact D
  |ret=>exact D)
 | .cond o a b,fr,s,K,h=>by
   rcases h with⟨A,w⟩|⟨A,w⟩
   exact jc (t:=true) A (WF.sound (c:=a) w);exact jc (t:=false) A (WF.sound (c:=b) w)
 | .block id b,fr,s,K,h=>W.block (WF.sound (c:=b) h)
 | .scope b,fr,s,K,h=>W.scope (WF.sound (c:=b) h)
 | .region ops,fr,s,K,h=>by
   obtain⟨u,s',A,w⟩:=h;exact W.region (WL.run A w)
 | .draw ops bs,fr,s,K,h=>by
   have J:(ops.take (fe bs).1).length<=(fe bs).1:=List.length_take_le _ _;obtain⟨A,w⟩:=h;have B: ∀q,WT Q f (fe bs).1 (fe bs).2 (ops.drop (fe bs).1) q s (fun fr s=>K .normal fr s)-> ∀j:List eZ,calm j->(∀r∈j,r.i<0+(ops.take (fe bs).1).length)->
    ∃u s',kw Q f (bs.drop (ops.take (fe bs).1).length) j (0+(ops.take (fe bs).1).length) (ops.drop (fe bs).1) q s u s'/\K .normal u s':=fun q F j _ M=>by
    by_cases hl:(fe bs).1<=ops.length
    simp_all [fe,WT.run]
    have I:ops.drop (fe bs).1=[]:=List.drop_eq_nil_of_le (by omega);rw[I] at F ⊢;rw[K4] at F;exact⟨q,s,.nil,F⟩
   obtain⟨u,s',G,H⟩:=WQ.thenD (l1:=ops.take (fe bs).1) (l2:=ops.drop (fe bs).1) (N:=fun fr s=>K .normal fr s) (bs:=bs) (rs:=[]) (i:=0) A (fun _ E=>by cases E) (fun _ E=>by cases E) (WQ.mono B w);rw[List.take_append_drop] at G;exact W.drawR G H
 | .loop _,_,_,_,h=>h
 | .rfun _ _ _ _,_,_,_,h=>h
 | .bad,_,_,_,h=>h
def Eh(Q:aD)(f:FuncId)(a b:SC)(e:aw)(sz:Nat)(lc:Loc)(s:St)(K:Ex->Fr->St->Prop)(v:Option aa):Prop:=(v=some (.bool true)/\WF Q f a ⟨e,sz,lc⟩ s K)\/(v=some (.bool false)/\WF Q f b ⟨e,sz,lc⟩ s K)
variable{e:aw}{sz:Nat}{lc:Loc}{s:St}{K:Ex->Fr->St->Prop}
def So:WF Q f .skip ⟨e,sz,lc⟩ s K=K .normal ⟨e,sz,lc⟩ s:=rfl
def Sl:WF Q f .ret ⟨e,sz,lc⟩ s K=K .ret ⟨e,sz,lc⟩ s:=rfl
def Si{id:Nat}:WF Q f (.exit id) ⟨e,sz,lc⟩ s K=K (.exit id) ⟨e,sz,lc⟩ s:=rfl
def Sn{b:SC}:WF Q f (.seq a b) ⟨e,sz,lc⟩ s K=WF Q f a ⟨e,sz,lc⟩ s (Ex.next K fun fr s=>WF Q f b fr s K):=rfl
def Sg{o:Operand}{b:SC}:WF Q f (.cond o a b) ⟨e,sz,lc⟩ s K=Eh Q f a b e sz lc s K (ev e o):=rfl
def Sf{id:Nat}{b:SC}:WF Q f (.block id b) ⟨e,sz,lc⟩ s K=WF Q f b ⟨e,sz,lc⟩ s fun x=>K (x.block id):=rfl
def Sm{b:SC}:WF Q f (.scope b) ⟨e,sz,lc⟩ s K=WF Q f b ⟨e,sz,lc⟩ s K:=rfl
def Sk:WF Q f (.region ops) ⟨e,sz,lc⟩ s K=WP Q f ops ⟨e,sz,lc⟩ s fun fr s=>K .normal fr s:=rfl
def Sh{bs:List Nat}:WF Q f (.draw ops bs) ⟨e,sz,lc⟩ s K=(s.gt<=s.aL/\WQ Q f s.top (ops.take (fe bs).1) ⟨e,sz,lc⟩ fun j=>WT Q f (fe bs).1 (fe bs).2 (ops.drop (fe bs).1) j s fun fr s=>K .normal fr s):=rfl
def Sj{b:SC}:WF Q f (.loop b) ⟨e,sz,lc⟩ s K=W Q f (.loop b) ⟨e,sz,lc⟩ s K:=rfl
def Vf{b:SC}:Eh Q f a b e sz lc s K (some (.bool true))=WF Q f a ⟨e,sz,lc⟩ s K:=by simp[Eh]
def Ve{b:SC}:Eh Q f a b e sz lc s K (some (.bool false))=WF Q f b ⟨e,sz,lc⟩ s K:=by simp[Eh]
def aq.of3{n:Nat}{t:Tmp}{v:aa}{s:St}(B:Q.P.funcs[f]? =some fn)(D:fn.body.map dJ=some sc)(A:fn.ntmps=n)(w:fn.results.toList=[.tmp t])(j:Q.spec f=none)(u:v.ge=true)(h:WF Q f sc (fZ n args) s fun x q s1=>s1=s'/\(x= .normal\/x= .ret)/\ac q.env t=v)(F:Q.specH f=none:=by rfl)(E:Q.specW f=none:=by rfl):aq Q f args s v s':=
 aq.of2 B D A w j (h.sound.mono fun _ _ _ ⟨I,H,G⟩=>⟨I,H,dK G u⟩) F E
def abk:nq []= .tup []:=rfl
def abl{v:aa}:nq [v]=v:=rfl
def abm{a b:aa}:nq [a,b]= .tup [a,b]:=rfl
def abn{a b c:aa}:nq [a,b,c]= .tup [a,b,c]:=rfl
def aq.of4{n:Nat}{rs:List ResultVar}{v:aa}{s:St}(A:Q.P.funcs[f]? =some fn)(B:fn.body.map dJ=some sc)(w:fn.ntmps=n)(u:fn.results.toList=rs)(j:Q.spec f=none)(h:WF Q f sc (fZ n args) s fun x q s1=>s1=s'/\(x= .normal\/x= .ret)/\(iu Q [] q s1 rs).map nq=some v)(E:Q.specH f=none:=by rfl)(D:Q.specW f=none:=by rfl):aq Q f args s v s':=
 aq.of2 A B w u j (h.sound.mono fun _ _ _ ⟨G,F,H⟩=>⟨G,F,by simp_all⟩) E D
def W.loopF{b:SC}(h:WF Q f b fr s (Ex.next K fun fr s=>W Q f (.loop b) fr s K)):W Q f (.loop b) fr s K:=W.loop1 h.sound
end
variable{K:Ex->Fr->St->Prop}{o:Op}{p:aI->Option (aa×Loc×St)}
section
variable{Q:aD}{f:FuncId}
structure gN where
 i:Nat
 nw:Bool
 lo:Bool
 ft:cU
def mL(b j:Nat):Bool:=b / 2 ^ j % 2==1
theorem ac8(b j:Nat):mL b j=b.testBit j:=by
 grind [mL]
def eh(b:Nat)(ft:cU)(lo:Bool):List gN->Bool
 | []=>true
 |a::R=>(mL b a.i||(!a.nw&& !((lo||a.lo)&&ft.meets a.ft)))&&eh b ft lo R
def kz:Op->Nat
 | .store .. | .alloc _| .box .. =>1
 | .load .. | .fieldAddr .. | .indexAddr .. | .nilCheck _| .move _| .assign _| .pick .. | .build .. | .field .. | .index .. | .binOp .. | .unOp .. | .convert .. | .makeFunc .. | .extract .. =>3
 | .lookup .. | .slice .. =>0
 | .call {callee:=.value _, .. }=>0
 | .call {callee:=.builtin .len, .. }=>0
 |_=>2
def zL(rs:List eZ)(R:List gN):Prop:= ∀r∈rs, ∃a∈R,a.i=r.i/\(a.nw=false->r.c0=r.c1)/\(a.lo=false->r.loud=false)/\a.ft=r.foot
def aai{b:Nat}{ft:cU}{lo:Bool}: ∀ {R:List gN},eh b ft lo R=true-> ∀a∈R,mL b a.i=true\/(a.nw=false/\((lo||a.lo)&&ft.meets a.ft)=false)
 | [],_,a,h=>by cases h
 |x::R,h,a,j=>by
  simp only[eh,bm,vF,mQ] at h;rcases dl.1 j with rfl|j
  exact h.1;exact aai h.2 a j
def oW(b:Nat)(ft:cU)(lo:Bool):List gN->Bool
 | []=>true
 |a::R=>(mL b a.i|| !((lo||a.lo)&&ft.meets a.ft))&&oW b ft lo R
def aah{b:Nat}{ft:cU}{lo:Bool}: ∀ {R:List gN},oW b ft lo R=true-> ∀a∈R,mL b a.i=true\/((lo||a.lo)&&ft.meets a.ft)=false
 | [],_,a,h=>by cases h
 |x::R,h,a,j=>by
  simp only[oW,bm,vF,mQ] at h;rcases dl.1 j with rfl|j
  exact h.1;exact aah h.2 a j
def wU{b:Nat}{ft:cU}{lo:Bool}: ∀ {R:List gN},eh b ft lo R=true->oW b ft lo R=true
 | [],_=>rfl
 |x::R,h=>by
  simp only[eh,oW,bm,vF] at h ⊢;exact⟨h.1.imp id fun h=>h.2,wU h.2⟩
theorem yK{b:Nat}{ft:cU}{lo:Bool}{R:List gN}(q:zL rs R)(h:eh b ft lo R=true):iH b rs []=[]:=Zv fun r j=>by
 obtain⟨a,u,A,w,_,_⟩:=q r j;rcases aai h a u with h|h
 all_goals grind [ac8]
theorem u5{b:Nat}{ft:cU}{lo lo':Bool}{R:List gN}(q:zL rs R)(h:oW b ft lo R=true)(A:lo=false->lo'=false):pw b ft lo' rs=true:=by
 simp only[pw,fu];intro r j;obtain⟨a,w,B,_,u,D⟩:=q r j;rcases aah h a w with h|h
 all_goals grind [ac8]
def WG(Q:aD)(f:FuncId):Nat->List gN->List Nat->List au->Fr->St->(Fr->St->Prop)->Prop
 |_,_,_,[],fr,s,N=>N fr s
 |_,_,[],_::_,_,_,_=>False
 |i,R,b::bs,o::l,fr,s,N=>
  (eY fr.env o.g=true/\kz o.op=3/\ ∃v lc j,(∀mk,cw Q f o mk fr s.top=some (v,lc,s.top))/\cN fr o.dst v lc=some j/\oW b (bD (Q.hint f) o.dst fr.env o.op) false R=true/\WG Q f (i+1) (⟨i,false,false,bD (Q.hint f) o.dst fr.env o.op⟩::R) bs l j s N)\/
  (eY fr.env o.g=true/\ ∃v lc s1 j,cw Q f o [] fr s.top=some (v,lc,s1)/\cN fr o.dst v lc=some j/\
   ((kz o.op=0/\s1=s.top/\eh b (bD (Q.hint f) o.dst fr.env o.op) false R=true/\WG Q f (i+1) (⟨i,false,false,bD (Q.hint f) o.dst fr.env o.op⟩::R) bs l j s N)\/
    (kz o.op=1/\s1=s.top/\eh b (bD (Q.hint f) o.dst fr.env o.op) true R=true/\WG Q f (i+1) (⟨i,false,true,bD (Q.hint f) o.dst fr.env o.op⟩::R) bs l j s N)\/
    (kz o.op=2/\s1.ci=s.ci/\eh b (bD (Q.hint f) o.dst fr.env o.op) true R=true/\s.aL<=s1.aL/\WG Q f (i+1) (⟨i,true,true,bD (Q.hint f) o.dst fr.env o.op⟩::R) bs l j (s.Gt s1) N)))\/
  (eY fr.env o.g=false/\ ∃j,cN fr o.dst fN fr.loc=some j/\WG Q f (i+1) R bs l j s N)
theorem zL.cons{R:List gN}(h:zL rs R){r:eZ}{a:gN}(A:a.i=r.i)(w:a.nw=false->r.c0=r.c1)(u:a.lo=false->r.loud=false)(q:a.ft=r.foot):zL (r::rs) (a::R):=fun x j=>by
 rcases dl.1 j with rfl|j
 exact⟨a,by simp,A,w,u,q⟩;obtain⟨D,B,r⟩:=h x j
 grind
def agf(h:kz o=3):isStore o=false:=by
 cases o<;>first|rfl|(cases h;done)
def age(h:kz o=0):isStore o=false:=by
 cases o<;>first|rfl|(cases h;done)
def WG.run: ∀ {l:List au} {i:Nat} {R:List gN} {bs:List Nat} {rs:List eZ} {fr:Fr} {s:St} {N:Fr->St->Prop},s.gt<=s.aL->zL rs R->WG Q f i R bs l fr s N-> ∃j s',kw Q f bs rs i l fr s j s'/\N j s'
 | [],i,R,bs,rs,fr,s,N,_,_,h=>⟨fr,s,.nil,by cases bs<;>exact h⟩
 |o::l,i,R,[],rs,fr,s,N,_,_,h=>h.elim
 |o::l,i,R,b::bs,rs,fr,s,N,hm,hr,h=>by
  have J:bh s.aL s.aL=false:=by rw[oc];simp
  rcases h with⟨A,c,v,lc,G,F,D,u,B⟩|⟨A,v,lc,s1,G,F,D,I⟩|⟨A,G,D,I⟩
  have E:(bh s.top.gt s.aL||isStore o.op)=false:=by rw[agf c,jG];exact J
  obtain⟨j,s',q,w⟩:=WG.run (rs:=⟨i,s.aL,s.top.aL,bD (Q.hint f) o.dst fr.env o.op,bh s.top.gt s.aL||isStore o.op⟩::rs) hm (hr.cons rfl (fun _=>rfl) (fun _=>E) rfl) B;rw[<-m8 hm] at q;exact⟨j,s',.step A (v:=v) (lc:=lc) (s1:=s.top) (F _) (u5 hr u fun _=>E) rfl D q,w⟩;rcases I with⟨c,rfl,u,B⟩|⟨c,rfl,u,B⟩|⟨c,O,u,M,B⟩
  have E:(bh s.top.gt s.aL||isStore o.op)=false:=by rw[age c,jG];exact J
  obtain⟨j,s',q,w⟩:=WG.run (rs:=⟨i,s.aL,s.top.aL,bD (Q.hint f) o.dst fr.env o.op,bh s.top.gt s.aL||isStore o.op⟩::rs) hm (hr.cons rfl (fun _=>rfl) (fun _=>E) rfl) B;rw[<-m8 hm] at q;refine⟨j,s',.step A (v:=v) (lc:=lc) (s1:=s.top) ?_ ?_ rfl D q,w⟩;show cw Q f o (iH b rs []) fr s.top=_;rw[yK hr u];exact F;exact u5 hr (wU u) fun _=>E;obtain⟨j,s',q,w⟩:=WG.run (rs:=⟨i,s.aL,s.top.aL,bD (Q.hint f) o.dst fr.env o.op,bh s.top.gt s.aL||isStore o.op⟩::rs) hm (hr.cons rfl (fun _=>rfl) (fun h=>by cases h) rfl) B;rw[<-m8 hm] at q;refine⟨j,s',.step A (v:=v) (lc:=lc) (s1:=s.top) ?_ ?_ rfl D q,w⟩;show cw Q f o (iH b rs []) fr s.top=_;rw[yK hr u];exact F;exact u5 hr (wU u) fun h=>by cases h
  obtain⟨j,s',q,w⟩:=WG.run (rs:=⟨i,s.aL,s1.aL,bD (Q.hint f) o.dst fr.env o.op,bh s1.gt s.aL||isStore o.op⟩::rs) (pB hm M) (hr.cons rfl (fun h=>by cases h) (fun h=>by cases h) rfl) B;refine⟨j,s',.step A (v:=v) (lc:=lc) (s1:=s1) ?_ ?_ O D q,w⟩;show cw Q f o (iH b rs []) fr s.top=_;rw[yK hr u];exact F;exact u5 hr (wU u) fun h=>by cases h
  obtain⟨j,s',q,w⟩:=WG.run (rs:=rs) hm (fun r H=>hr r H) I;exact⟨j,s',.skip A D q,w⟩
def W.drawG{bs:List Nat}{s:St}(j:s.gt<=s.aL)(h:WG Q f 0 [] bs ops fr s fun fr s=>K .normal fr s):W Q f (.draw ops bs) fr s K:=
 let⟨_,_,h1,h2⟩:=WG.run (rs:=[]) j (fun _ h=>by cases h) h
 W.drawR h1 h2
def Rl(Q:aD)(f:FuncId)(c:Nat)(ft:cU)(i:Nat)(R:List gN)(b:Nat)(bs:List Nat)(d:Option Tmp)(e:aw)(sz:Nat)(s:St)(l:List au)(N:Fr->St->Prop)(p:aI->Option (aa×Loc×St)):Prop:=
 (c=3/\ ∃v lc j,(∀mk,p mk=some (v,lc,s.top))/\cN ⟨e,sz,lc⟩ d v lc=some j/\oW b ft false R=true/\WG Q f (i+1) (⟨i,false,false,ft⟩::R) bs l j s N)\/
 (∃v lc s1 j,p []=some (v,lc,s1)/\cN ⟨e,sz,lc⟩ d v lc=some j/\
  ((c=0/\s1=s.top/\eh b ft false R=true/\WG Q f (i+1) (⟨i,false,false,ft⟩::R) bs l j s N)\/
   (c=1/\s1=s.top/\eh b ft true R=true/\WG Q f (i+1) (⟨i,false,true,ft⟩::R) bs l j s N)\/
   (c=2/\s1.ci=s.ci/\eh b ft true R=true/\s.aL<=s1.aL/\WG Q f (i+1) (⟨i,true,true,ft⟩::R) bs l j (s.Gt s1) N)))
def Rm(Q:aD)(f:FuncId)(c:Nat)(ft:cU)(i:Nat)(R:List gN)(b:Nat)(bs:List Nat)(d:Option Tmp)(e:aw)(sz:Nat)(s:St)(l:List au)(N:Fr->St->Prop)(x:Option (aa×Loc×St)):Prop:= ∃v lc s1 j,x=some (v,lc,s1)/\cN ⟨e,sz,lc⟩ d v lc=some j/\
 ((c=0/\s1=s.top/\eh b ft false R=true/\WG Q f (i+1) (⟨i,false,false,ft⟩::R) bs l j s N)\/
  (c=1/\s1=s.top/\eh b ft true R=true/\WG Q f (i+1) (⟨i,false,true,ft⟩::R) bs l j s N)\/
  (c=2/\s1.ci=s.ci/\eh b ft true R=true/\s.aL<=s1.aL/\WG Q f (i+1) (⟨i,true,true,ft⟩::R) bs l j (s.Gt s1) N))
section
variable{i b c:Nat}{R:List gN}{ft:cU}{bs:List Nat}{d:Tmp}{op:Op}{l:List au}{e:aw}{sz:Nat}{lc:Loc}{s s1:St}{N:Fr->St->Prop}{v:aa}{t:Tmp}{x:Option (aa×Loc×St)}
def aeE:WG Q f i R bs [] fr s N=N fr s:=by cases bs<;>rfl
def JK{fr:Fr}{d:Option Tmp}{v:aa}{lc l2:Loc}:cN ⟨e,sz,l2⟩ d v lc=cN ⟨e,sz,lc⟩ d v lc:=by cases d<;>rfl
def aeD{d:Option Tmp}:WG Q f i R (b::bs) (⟨d,op,.aw⟩::l) ⟨e,sz,lc⟩ s N=Rl Q f (kz op) (bD (Q.hint f) d e op) i R b bs d e sz s l N (fun mk=>cw Q f ⟨d,op,.aw⟩ mk ⟨e,sz,lc⟩ s.top):=by
 apply propext;constructor;rintro(⟨_,c,v,j,q,A,u,w⟩|⟨_,v,j,s1,q,A,u,w⟩|⟨B,_⟩);have u:cN ⟨e,sz,lc⟩ d v j=some q:=u;rw[JK (fr:=⟨e,sz,lc⟩)] at u;exact .inl ⟨c,v,j,q,A,u,w⟩;have u:cN ⟨e,sz,lc⟩ d v j=some q:=u;rw[JK (fr:=⟨e,sz,lc⟩)] at u;exact .inr ⟨v,j,s1,q,A,u,w⟩;cases B;rintro(⟨c,v,j,q,A,u,w⟩|⟨v,j,s1,q,A,u,w⟩);rw[<-JK (fr:=⟨e,sz,lc⟩) (l2:=lc)] at u;exact .inl ⟨rfl,c,v,j,q,A,u,w⟩;rw[<-JK (fr:=⟨e,sz,lc⟩) (l2:=lc)] at u;exact .inr (.inl ⟨rfl,v,j,s1,q,A,u,w⟩)
theorem av5:Rl Q f 3 ft i R b bs (some d) e sz s l N (fun _=>some (v,lc,s.top))=(d<sz/\oW b ft false R=true/\WG Q f (i+1) (⟨i,false,false,ft⟩::R) bs l ⟨e.set d (some v),sz,lc⟩ s N):=by
 apply propext;constructor
 ·rintro(⟨_,B,j,u,h,q,A,w⟩|⟨B,j,s',u,h,q,⟨h,_⟩|⟨h,_⟩|⟨h,_⟩⟩)
  have h:=h []
  grind [fU]
  all_goals grind
 rintro⟨q,A,w⟩;exact .inl ⟨rfl,v,lc,_,fun _=>rfl,fU.2 ⟨q,rfl⟩,A,w⟩
def av6{d:Option Tmp}:Rl Q f 1 ft i R b bs d e sz s l N p=Rm Q f 1 ft i R b bs d e sz s l N (p []):=by
 apply propext;constructor;rintro(⟨h,_⟩|h);cases h;exact h;exact fun h=>.inr h
theorem av7:Rm Q f 1 ft i R b bs (some d) e sz s l N (some (v,lc,s.top))=(d<sz/\eh b ft true R=true/\WG Q f (i+1) (⟨i,false,true,ft⟩::R) bs l ⟨e.set d (some v),sz,lc⟩ s N):=by
 apply propext;constructor
 ·rintro⟨B,u,s',A,h,q,⟨h,_⟩|⟨_,_,j,D⟩|⟨h,_⟩⟩
  all_goals grind [fU]
 rintro⟨q,w,j⟩;exact⟨v,lc,_,_,rfl,fU.2 ⟨q,rfl⟩,.inr (.inl ⟨rfl,rfl,w,j⟩)⟩
def av8:Rm Q f 1 ft i R b bs none e sz s l N (some (v,lc,s.top))=(eh b ft true R=true/\WG Q f (i+1) (⟨i,false,true,ft⟩::R) bs l ⟨e,sz,lc⟩ s N):=by
 apply propext;constructor;rintro⟨D,w,s',u,h,q,⟨h,_⟩|⟨_,_,j,A⟩|⟨h,_⟩⟩;cases h;simp only[aH,bu] at h;obtain⟨rfl,rfl,rfl⟩:=h;have q:u=⟨e,sz,lc⟩:=(sI q).symm;subst q;exact⟨j,A⟩;cases h;rintro⟨B,j⟩;exact⟨v,lc,_,⟨e,sz,lc⟩,rfl,rfl,.inr (.inl ⟨rfl,rfl,B,j⟩)⟩
end
section
variable{b:Nat}{ft:cU}{lo:Bool}{R:List gN}{i:Nat}{nw l2:Bool}{ft2:cU}
def asn:eh b ft lo []=true:=rfl
def asl:oW b ft lo []=true:=rfl
def asj:oW b ft lo (⟨i,nw,l2,ft2⟩::R)=((mL b i|| !((lo||l2)&&ft.meets ft2))&&oW b ft lo R):=rfl
def asm:eh b ft lo (⟨i,nw,l2,ft2⟩::R)=((mL b i||(!nw&& !((lo||l2)&&ft.meets ft2)))&&eh b ft lo R):=rfl
def ajM:xu ft .none=false:=by cases ft<;>rfl
def arS:xu .none ft=false:=by cases ft<;>rfl
def afa(t:Nat):xu .all (.loc t)=false:=rfl
def aqB(t:Nat):xu (.loc t) .all=false:=rfl
def aqC(t u:Nat):xu (.loc t) (.loc u)=aK t u:=rfl
end
def akg(h:Tmp->Nat)(d:Option Tmp)(e:aw)(t:TypeId)(a:Operand):bD h d e (.load t a)=wu e a:=rfl
def ako(h:Tmp->Nat)(d:Option Tmp)(e:aw)(t:TypeId)(a x:Operand):bD h d e (.store t a x)=wu e a:=rfl
def akc(h:Tmp->Nat)(d:Option Tmp)(e:aw)(t:TypeId)(a:Operand)(i:Nat):bD h d e (.fieldAddr t a i)=qy e a:=rfl
def ake(h:Tmp->Nat)(d:Option Tmp)(e:aw)(t:TypeId)(a i:Operand):bD h d e (.indexAddr t a i)=qy e a:=rfl
def akk(h:Tmp->Nat)(d:Option Tmp)(e:aw)(a:Operand):bD h d e (.move a)= .none:=rfl
def aj4(h:Tmp->Nat)(d:Option Tmp)(e:aw)(a:Operand):bD h d e (.assign a)= .none:=rfl
def aj7(h:Tmp->Nat)(d:Option Tmp)(e:aw)(t:TypeId)(ps:Array (Nat×Operand)):bD h d e (.build t ps)= .none:=rfl
def aj8(h:Tmp->Nat)(d:Option Tmp)(e:aw)(t:TypeId)(n:Nat)(ps:Array (Nat×Operand)):bD h d e (.buildSlice t n ps)= .none:=rfl
def aj5(h:Tmp->Nat)(d:Option Tmp)(e:aw)(o:BinOp)(t u:TypeId)(x y:Operand):bD h d e (.binOp o t x y u)= .none:=rfl
def akp(h:Tmp->Nat)(d:Option Tmp)(e:aw)(o:UnOp)(t:TypeId)(x:Operand):bD h d e (.unOp o t x)= .none:=rfl
def akb(h:Tmp->Nat)(d:Option Tmp)(e:aw)(a:Operand)(i:Nat):bD h d e (.extract a i)= .none:=rfl
def aj2(h:Tmp->Nat)(d:Tmp)(e:aw)(t:TypeId):bD h (some d) e (.alloc t)=bif aK (h d) 1 then .loc d else .none:=rfl
def aj6(h:Tmp->Nat)(d:Tmp)(e:aw)(t:TypeId)(x:Operand):bD h (some d) e (.box t x)=bif aK (h d) 1 then .loc d else .none:=rfl
def aj9(h:Tmp->Nat)(d:Option Tmp)(e:aw)(x:Operand)(as:Array Operand)(ts:Array TypeId):bD h d e (.call ⟨.value x,as,ts⟩)= .all:=rfl
def aj3(h:Tmp->Nat)(d:Option Tmp)(e:aw)(as:Array Operand)(ts:Array TypeId):bD h d e (.call ⟨.builtin .append,as,ts⟩)= .all:=rfl
def HD:aa->cU
 | .Ge t _ _=>.loc t
 | .ptr n _=>.obj n
 | .ro _=>.none
 |_=>.all
def Cc:aa->cU
 | .Ge t _ _=>.loc t
 |_=>.none
def ajQ(e:aw)(t:Tmp):wu e (.tmp t)=HD (ac e t):=by
 show(match ev e (.tmp t) with|some (.Ge t _ _)=>cU.loc t|some (.ptr n _)=>.obj n|some (.ro _)=>.none|_=>.all)=_;rw[dR];cases ac e t<;>rfl
def ajX(e:aw)(t:Tmp):qy e (.tmp t)=Cc (ac e t):=by
 show(match ev e (.tmp t) with|some (.Ge t _ _)=>cU.loc t|_=>.none)=_;rw[dR];cases ac e t<;>rfl
def ajN(t g o:Nat):HD (.Ge t g o)= .loc t:=rfl
def ajP(x:List aa):HD (.ro x)= .none:=rfl
def ajU(t g o:Nat):Cc (.Ge t g o)= .loc t:=rfl
def ajW(x:List aa):Cc (.ro x)= .none:=rfl
def ags(t:TypeId)(a:Operand):kz (.load t a)=3:=rfl
def agu(t:TypeId)(a x:Operand):kz (.store t a x)=1:=rfl
def agh(t:TypeId):kz (.alloc t)=1:=rfl
def agl(t:TypeId)(x:Operand):kz (.box t x)=1:=rfl
def agq(t:TypeId)(a:Operand)(i:Nat):kz (.fieldAddr t a i)=3:=rfl
def agr(t:TypeId)(a i:Operand):kz (.indexAddr t a i)=3:=rfl
def agt(a:Operand):kz (.move a)=3:=rfl
def agj(a:Operand):kz (.assign a)=3:=rfl
def agm(t:TypeId)(ps:Array (Nat×Operand)):kz (.build t ps)=3:=rfl
def agn(t:TypeId)(n:Nat)(ps:Array (Nat×Operand)):kz (.buildSlice t n ps)=2:=rfl
def agk(o:BinOp)(t u:TypeId)(x y:Operand):kz (.binOp o t x y u)=3:=rfl
def agv(o:UnOp)(t:TypeId)(x:Operand):kz (.unOp o t x)=3:=rfl
def agp(a:Operand)(i:Nat):kz (.extract a i)=3:=rfl
def ago(x:Operand)(as:Array Operand)(ts:Array TypeId):kz (.call ⟨.value x,as,ts⟩)=0:=rfl
def agi(as:Array Operand)(ts:Array TypeId):kz (.call ⟨.builtin .append,as,ts⟩)=2:=rfl
end
variable{xs:Array Operand}{ts:Array TypeId}{ps:List Tmp}{h o:Operand}
section
variable{Q:aD}{f:FuncId}
theorem aq.sp{g:FuncId}{args:List aa}{s:St}{sp:List aa->Option aa}{v:aa}(h:Q.spec g=some sp)(j:sp args=some v):aq Q g args s v s:=by
 refine⟨1,?_⟩;show jx Q (b9 Q 0) g args [] s=_
 grind [jx]
theorem aq.sp_inv{g:FuncId}{args:List aa}{s s1:St}{sp:List aa->Option aa}{v:aa}(h:Q.spec g=some sp)(q:aq Q g args s v s1):sp args=some v/\s1=s:=by
 obtain⟨n,j⟩:=q;cases n with
 |zero=>cases j
 |succ n=>
  have j:jx Q (b9 Q n) g args [] s=some (v,s1):=j
  grind [jx,aj]
def Dr(d:Tmp)(e:aw)(sz:Nat)(C:Fr->St->Prop)(x:Option (aa×Loc×St)):Prop:= ∃v lc s,x=some (v,lc,s)/\d<sz/\C ⟨e.set d (some v),sz,lc⟩ s
def Ro(e:aw)(sz:Nat)(C:Fr->St->Prop)(x:Option (aa×Loc×St)):Prop:= ∃v lc s,x=some (v,lc,s)/\C ⟨e,sz,lc⟩ s
def ct(Q:aD)(g:FuncId)(args:List aa)(d:Tmp)(e:aw)(sz:Nat)(lc:Loc)(s:St)(C:Fr->St->Prop):Prop:= ∃v s1,aq Q g args s v s1/\d<sz/\C ⟨e.set d (some v),sz,lc⟩ s1
def zr(Q:aD)(n:Nat)(args:List aa)(d:Tmp)(e:aw)(sz:Nat)(lc:Loc)(s:St)(C:Fr->St->Prop):Prop:= ∃v s1,iy Q n args s v s1/\d<sz/\C ⟨e.set d (some v),sz,lc⟩ s1
def xV(Q:aD)(d:Tmp)(e:aw)(sz:Nat)(lc:Loc)(s:St)(C:Fr->St->Prop)(g:FuncId)(args:List aa):Option (List aa->Option aa)->Prop
 |some sp=>Dr d e sz C ((sp args).bind fun v=>some (v,lc,s))
 |none=>ct Q g args d e sz lc s C
def BG(Q:aD)(d:Tmp)(e:aw)(sz:Nat)(lc:Loc)(s:St)(C:Fr->St->Prop):Option aa->Option (List aa)->Prop
 |some (.func (.func g) a b),some args=>xV Q d e sz lc s C g (a++(args++b)) (Q.spec g)
 |some (.yld n),some args=>zr Q n args d e sz lc s C
 |_,_=>False
def mr:Op->Bool
 | .call {callee:=.value _, .. }=>true
 |_=>false
def BT(Q:aD)(f:FuncId)(op:Op)(d:Tmp)(e:aw)(sz:Nat)(lc:Loc)(s:St)(C:Fr->St->Prop):Bool->Prop
 |false=>Dr d e sz C (cw Q f ⟨some d,op,.aw⟩ [] ⟨e,sz,lc⟩ s)
 |true=>match op with
  | .call {callee:=.value x,args:=xs, .. }=>BG Q d e sz lc s C (ev e x) (evcs e xs.toList)
  |_=>False
def Nf(Q:aD)(f:FuncId)(op:Op)(e:aw)(sz:Nat)(lc:Loc)(s:St)(C:Fr->St->Prop):Option Tmp->Prop
 |some d=>BT Q f op d e sz lc s C (mr op)
 |none=>Ro e sz C (cw Q f ⟨none,op,.aw⟩ [] ⟨e,sz,lc⟩ s)
def PP(e:aw)(sz:Nat)(lc:Loc)(s:St)(C:Fr->St->Prop):Option Tmp->Prop
 |some d=>d<sz/\C ⟨e.set d (some fN),sz,lc⟩ s
 |none=>C ⟨e,sz,lc⟩ s
def ifV(Q:aD)(f:FuncId)(op:Op)(e:aw)(sz:Nat)(lc:Loc)(s:St)(C:Fr->St->Prop)(d:Option Tmp):Bool->Prop
 |true=>Nf Q f op e sz lc s C d
 |false=>PP e sz lc s C d
def opV(Q:aD)(f:FuncId)(op:Op)(d:Option Tmp)(e:aw)(sz:Nat)(lc:Loc)(s:St)(C:Fr->St->Prop):SG->Prop
 | .aw=>Nf Q f op e sz lc s C d
 | .when t b=>ifV Q f op e sz lc s C d (kn (ac e t) b)
 | .never=>PP e sz lc s C d
def WV(Q:aD)(f:FuncId):List au->Fr->St->(Fr->St->Prop)->Prop
 | [],fr,s,N=>N fr s
 |o::l,fr,s,N=>opV Q f o.op o.dst fr.env fr.size fr.loc s (fun fr s=>WV Q f l fr s N) o.g
def V7{o:au}{l:List au}{s:St}{N:Fr->St->Prop}(H:eY fr.env o.g=true)(G: ∀ {fr s},WV Q f l fr s N->WL Q f l fr s N)(h:Nf Q f o.op fr.env fr.size fr.loc s (fun fr s=>WV Q f l fr s N) o.dst):WL Q f (o::l) fr s N:=by
 obtain⟨d,op,gd⟩:=o;obtain⟨e,sz,lc⟩:=fr;cases d with
 |none=>
  obtain⟨v,lc',s1,j,B⟩:=h;obtain⟨q,D,F,E⟩:=G B;refine⟨q,D,.step (fr1:=⟨e,sz,lc'⟩) (s1:=s1) ?_ F,E⟩;have j:cw Q f ⟨none,op,gd⟩ [] ⟨e,sz,lc⟩ s=some (v,lc',s1):=j;simp only[sl,H,j,cT,bg];rfl
 |some d=>
  have plain:Dr d e sz (fun fr s=>WV Q f l fr s N) (cw Q f ⟨some d,op,.aw⟩ [] ⟨e,sz,lc⟩ s)->WL Q f (⟨some d,op,gd⟩::l) ⟨e,sz,lc⟩ s N:=by
   rintro⟨v,lc',s1,j,B,A⟩;obtain⟨q,D,F,E⟩:=G A;refine⟨q,D,.step (fr1:=⟨e.set d (some v),sz,lc'⟩) (s1:=s1) ?_ F,E⟩;have j:cw Q f ⟨some d,op,gd⟩ [] ⟨e,sz,lc⟩ s=some (v,lc',s1):=j;simp only[sl,H,j,cT,bg,(fU (e:=e) (lc:=lc) (lc':=lc')).2 ⟨B,rfl⟩]
  have h:BT Q f op d e sz lc s (fun fr s=>WV Q f l fr s N) (mr op):=h;cases hc:mr op with
  |false=>rw[hc] at h;exact plain h
  |true=>
   rw[hc] at h;unfold mr at hc;split at hc;rename_i x xs ts _;have h:BG Q d e sz lc s (fun fr s=>WV Q f l fr s N) (ev e x) (evcs e xs.toList):=h;unfold BG at h;split at h;rename_i g a b args j B;have w:callee e ⟨.value x,xs,ts⟩=some (g,a++(args++b)):=by simp only[callee,j,B,bg]
   unfold xV at h;split at h;rename_i sp M;obtain⟨v,lc',s1,A,J,I⟩:=h;simp only[aj,aH,bu] at A;obtain⟨u,O,rfl,rfl,rfl⟩:=A;exact WL.call H rfl (by simp) w (.sp M O) (fU.2 ⟨J,rfl⟩) (G I);obtain⟨v,s1,A,J,I⟩:=h;exact WL.call H rfl (by simp) w A (fU.2 ⟨J,rfl⟩) (G I);rename_i n args j B;obtain⟨v,s1,A,J,I⟩:=h;obtain⟨q,D,F,E⟩:=G I;exact⟨q,D,.yld H rfl (by simp only[yieldee,j,B,bg]) A (fU.2 ⟨J,rfl⟩) F,E⟩;exact h.elim;cases hc
def ZU{o:au}{l:List au}{s:St}{N:Fr->St->Prop}(B:eY fr.env o.g=false)(A: ∀ {fr s},WV Q f l fr s N->WL Q f l fr s N)(h:PP fr.env fr.size fr.loc s (fun fr s=>WV Q f l fr s N) o.dst):WL Q f (o::l) fr s N:=by
 obtain⟨d,op,gd⟩:=o;obtain⟨e,sz,lc⟩:=fr;cases d with
 |none=>
  obtain⟨j,q,w,u⟩:=A h;refine⟨j,q,.step (fr1:=⟨e,sz,lc⟩) (s1:=s) ?_ w,u⟩;simp only[sl,B,cF];rfl
 |some d=>
  obtain⟨j,q,w,u⟩:=A h.2;refine⟨j,q,.step (fr1:=⟨e.set d (some fN),sz,lc⟩) (s1:=s) ?_ w,u⟩;simp only[sl,B,cF,(fU (e:=e) (lc:=lc) (lc':=lc)).2 ⟨h.1,rfl⟩,bg]
def WV.run: ∀ {l:List au} {fr:Fr} {s:St} {N:Fr->St->Prop},WV Q f l fr s N->WL Q f l fr s N
 | [],fr,s,N,h=>⟨fr,s,.nil,h⟩
 |o::l,fr,s,N,h=>by
  have h:opV Q f o.op o.dst fr.env fr.size fr.loc s (fun fr s=>WV Q f l fr s N) o.g:=h;cases hg:o.g with
  |aw=>
   rw[hg] at h;exact V7 (by rw[hg];rfl) WV.run h
  |never=>
   rw[hg] at h;exact ZU (by rw[hg];rfl) WV.run h
  | «when» t b=>
    rw[hg] at h;have h:ifV Q f o.op fr.env fr.size fr.loc s (fun fr s=>WV Q f l fr s N) o.dst (kn (ac fr.env t) b):=h;have j:eY fr.env o.g=kn (ac fr.env t) b:=by rw[hg,pZ]
    cases hv:kn (ac fr.env t) b with
    |true=>rw[hv] at h;exact V7 (by rw[j,hv]) WV.run h
    |false=>rw[hv] at h;exact ZU (by rw[j,hv]) WV.run h
def WC(Q:aD)(f:FuncId):SC->Fr->St->(Ex->Fr->St->Prop)->Prop
 | .skip,fr,s,K=>K .normal fr s
 | .ret,fr,s,K=>K .ret fr s
 | .exit id,fr,s,K=>K (.exit id) fr s
 | .seq a b,fr,s,K=>WC Q f a fr s (Ex.next K fun fr s=>WC Q f b fr s K)
 | .cond o a b,fr,s,K=>(ev fr.env o=some (.bool true)/\WC Q f a fr s K)\/(ev fr.env o=some (.bool false)/\WC Q f b fr s K)
 | .block id b,fr,s,K=>WC Q f b fr s fun x=>K (x.block id)
 | .scope b,fr,s,K=>WC Q f b fr s K
 | .region ops,fr,s,K=>WV Q f ops fr s fun fr s=>K .normal fr s
 | .draw ops bs,fr,s,K=>WF Q f (.draw ops bs) fr s K
 | .loop b,fr,s,K=>W Q f (.loop b) fr s K
 | .rfun g ps a b,fr,s,K=>W Q f (.rfun g ps a b) fr s K
 | .bad,fr,s,K=>W Q f .bad fr s K
def WC.sound: ∀ {c:SC} {fr:Fr} {s:St} {K:Ex->Fr->St->Prop},WC Q f c fr s K->W Q f c fr s K
 | .skip,_,_,_,h=>lY h
 | .ret,_,_,_,h=>W.ret h
 | .exit _,_,_,_,h=>W.exit h
 | .seq a b,fr,s,K,h=>cK ((WC.sound (c:=a) h).mono fun x fr s j=>by
  cases x with
  |normal=>exact WC.sound (c:=b) j
  |exit i=>exact j
  |ret=>exact j)
 | .cond o a b,fr,s,K,h=>by
   rcases h with⟨u,q⟩|⟨u,q⟩
   exact jc (t:=true) u (WC.sound (c:=a) q);exact jc (t:=false) u (WC.sound (c:=b) q)
 | .block id b,fr,s,K,h=>W.block (WC.sound (c:=b) h)
 | .scope b,fr,s,K,h=>W.scope (WC.sound (c:=b) h)
 | .region ops,fr,s,K,h=>W.region (WV.run h)
 | .draw ops bs,fr,s,K,h=>WF.sound h
 | .loop _,_,_,_,h=>h
 | .rfun _ _ _ _,_,_,_,h=>h
 | .bad,_,_,_,h=>h
def Ef(Q:aD)(f:FuncId)(a b:SC)(e:aw)(sz:Nat)(lc:Loc)(s:St)(K:Ex->Fr->St->Prop)(v:Option aa):Prop:=(v=some (.bool true)/\WC Q f a ⟨e,sz,lc⟩ s K)\/(v=some (.bool false)/\WC Q f b ⟨e,sz,lc⟩ s K)
section
variable{d:Tmp}{op:Op}{l:List au}{e:aw}{sz:Nat}{lc:Loc}{s s1:St}{N C:Fr->St->Prop}{K:Ex->Fr->St->Prop}{v:aa}{t:Tmp}{c:Bool}{g:FuncId}{x y args:List aa}{sp:List aa->Option aa}{a b:SC}
def ct.of(j:aq Q g args s v s1)(q:d<sz)(h:C ⟨e.set d (some v),sz,lc⟩ s1):ct Q g args d e sz lc s C:=⟨v,s1,j,q,h⟩
def ct.ex{R:aa->St->Prop}(j: ∃v s1,aq Q g args s v s1/\R v s1)(q:d<sz)(h: ∀v s1,R v s1->C ⟨e.set d (some v),sz,lc⟩ s1):ct Q g args d e sz lc s C:=let⟨v,s1,h1,h2⟩:=j;⟨v,s1,h1,q,h v s1 h2⟩
def zr.of{n:Nat}(j:iy Q n args s v s1)(q:d<sz)(h:C ⟨e.set d (some v),sz,lc⟩ s1):zr Q n args d e sz lc s C:=⟨v,s1,j,q,h⟩
theorem Rq:Dr d e sz C (some (v,lc,s))=(d<sz/\C ⟨e.set d (some v),sz,lc⟩ s):=by
 apply propext;constructor;rintro⟨q,j,s',h,u⟩
 grind
 exact fun h=>⟨v,lc,s,rfl,h⟩
theorem Rp:Ro e sz C (some (v,lc,s))=C ⟨e,sz,lc⟩ s:=by
 apply propext;constructor;rintro⟨q,j,s',h,u⟩
 grind
 exact fun h=>⟨v,lc,s,rfl,h⟩
def K7:WV Q f [] fr s N=N fr s:=rfl
def K5:WV Q f (⟨some d,op,.aw⟩::l) ⟨e,sz,lc⟩ s N=BT Q f op d e sz lc s (fun fr s=>WV Q f l fr s N) (mr op):=rfl
def K6:WV Q f (⟨none,op,.aw⟩::l) ⟨e,sz,lc⟩ s N=Ro e sz (fun fr s=>WV Q f l fr s N) (cw Q f ⟨none,op,.aw⟩ [] ⟨e,sz,lc⟩ s):=rfl
def K8{d:Option Tmp}:WV Q f (⟨d,op,.when t c⟩::l) ⟨e,sz,lc⟩ s N=ifV Q f op e sz lc s (fun fr s=>WV Q f l fr s N) d (kn (ac e t) c):=rfl
def Nr:ifV Q f op e sz lc s C (some d) true=BT Q f op d e sz lc s C (mr op):=rfl
def Nq:ifV Q f op e sz lc s C (some d) false=(d<sz/\C ⟨e.set d (some fN),sz,lc⟩ s):=rfl
def Mp:BT Q f op d e sz lc s C false=Dr d e sz C (cw Q f ⟨some d,op,.aw⟩ [] ⟨e,sz,lc⟩ s):=rfl
def Mo{x:Operand}:BT Q f (.call ⟨.value x,xs,ts⟩) d e sz lc s C true=BG Q d e sz lc s C (ev e x) (evcs e xs.toList):=rfl
def LY:BG Q d e sz lc s C (some (.func (.func g) x y)) (some args)=xV Q d e sz lc s C g (x++(args++y)) (Q.spec g):=rfl
def LZ{n:Nat}:BG Q d e sz lc s C (some (.yld n)) (some args)=zr Q n args d e sz lc s C:=rfl
def LX:xV Q d e sz lc s C g args (some sp)=Dr d e sz C ((sp args).bind fun v=>some (v,lc,s)):=rfl
def LW:xV Q d e sz lc s C g args none=ct Q g args d e sz lc s C:=rfl
def KJ:WC Q f .skip ⟨e,sz,lc⟩ s K=K .normal ⟨e,sz,lc⟩ s:=rfl
def KF:WC Q f .ret ⟨e,sz,lc⟩ s K=K .ret ⟨e,sz,lc⟩ s:=rfl
def KA{id:Nat}:WC Q f (.exit id) ⟨e,sz,lc⟩ s K=K (.exit id) ⟨e,sz,lc⟩ s:=rfl
def KI:WC Q f (.seq a b) ⟨e,sz,lc⟩ s K=WC Q f a ⟨e,sz,lc⟩ s (Ex.next K fun fr s=>WC Q f b fr s K):=rfl
def Ky:WC Q f (.cond o a b) ⟨e,sz,lc⟩ s K=Ef Q f a b e sz lc s K (ev e o):=rfl
def Kx{id:Nat}:WC Q f (.block id b) ⟨e,sz,lc⟩ s K=WC Q f b ⟨e,sz,lc⟩ s fun x=>K (x.block id):=rfl
def KH:WC Q f (.scope b) ⟨e,sz,lc⟩ s K=WC Q f b ⟨e,sz,lc⟩ s K:=rfl
def KD:WC Q f (.region ops) ⟨e,sz,lc⟩ s K=WV Q f ops ⟨e,sz,lc⟩ s fun fr s=>K .normal fr s:=rfl
def Kz:WC Q f (.draw ops bs) ⟨e,sz,lc⟩ s K=WF Q f (.draw ops bs) ⟨e,sz,lc⟩ s K:=rfl
def KC:WC Q f (.loop b) ⟨e,sz,lc⟩ s K=W Q f (.loop b) ⟨e,sz,lc⟩ s K:=rfl
def KG{p q:Code}:WC Q f (.rfun h ps p q) ⟨e,sz,lc⟩ s K=W Q f (.rfun h ps p q) ⟨e,sz,lc⟩ s K:=rfl
def Mm:Ef Q f a b e sz lc s K (some (.bool true))=WC Q f a ⟨e,sz,lc⟩ s K:=by simp[Ef]
def Ml:Ef Q f a b e sz lc s K (some (.bool false))=WC Q f b ⟨e,sz,lc⟩ s K:=by simp[Ef]
def W.loopC(h:WC Q f b fr s (Ex.next K fun fr s=>W Q f (.loop b) fr s K)):W Q f (.loop b) fr s K:=W.loop1 h.sound
end
end
variable{as:List aa}{gd:SG}{ty:TypeId}
section
variable{Q:aD}{f:FuncId}
def gQ:Op->Nat
 | .fieldAddr .. | .indexAddr .. | .nilCheck _| .move _| .assign _| .pick .. | .build .. | .field .. | .index .. | .binOp .. | .unOp .. | .convert .. | .makeFunc .. | .extract .. =>3
 | .load .. | .lookup .. | .slice .. =>0
 | .call {callee:=.value _, .. }=>0
 | .call {callee:=.builtin .len, .. }=>0
 | .call {callee:=.builtin .min, .. }=>0
 | .call {callee:=.builtin .max, .. }=>0
 |_=>1
def WX(Q:aD)(f:FuncId):Nat->List gN->List Nat->List au->Fr->St->(Fr->St->Prop)->Prop
 |_,_,_,[],fr,s,N=>N fr s
 |_,_,[],_::_,_,_,_=>False
 |i,R,b::bs,o::l,fr,s,N=>
  (eY fr.env o.g=true/\gQ o.op=3/\ ∃v lc j,(∀mk,cw Q f o mk fr s.top=some (v,lc,s.top))/\cN fr o.dst v lc=some j/\oW b (bD (Q.hint f) o.dst fr.env o.op) false R=true/\WX Q f (i+1) (⟨i,false,false,bD (Q.hint f) o.dst fr.env o.op⟩::R) bs l j s N)\/
  (eY fr.env o.g=true/\gQ o.op=0/\ ∃v lc j,cw Q f o [] fr s.top=some (v,lc,s.top)/\cN fr o.dst v lc=some j/\eh b (bD (Q.hint f) o.dst fr.env o.op) false R=true/\WX Q f (i+1) (⟨i,false,false,bD (Q.hint f) o.dst fr.env o.op⟩::R) bs l j s N)\/
  (eY fr.env o.g=true/\gQ o.op=1/\ ∃v lc s1 j,cw Q f o [] fr s.top=some (v,lc,s1)/\cN fr o.dst v lc=some j/\s1.ci=s.ci/\s.aL<=s1.aL/\eh b (bD (Q.hint f) o.dst fr.env o.op) true R=true/\WX Q f (i+1) (⟨i, !aK s1.aL s.aL,true,bD (Q.hint f) o.dst fr.env o.op⟩::R) bs l j (s.Gt s1) N)\/
  (eY fr.env o.g=true/\ ∃c g args v s1 j,o.op= .call c/\(∀b,c.callee≠ .builtin b)/\callee fr.env c=some (g,args)/\Q.spec g=none/\aq Q g args s.top v s1/\cN fr o.dst v fr.loc=some j/\s1.ci=s.ci/\s.aL<=s1.aL/\eh b (bD (Q.hint f) o.dst fr.env o.op) true R=true/\WX Q f (i+1) (⟨i, !aK s1.aL s.aL,true,bD (Q.hint f) o.dst fr.env o.op⟩::R) bs l j (s.Gt s1) N)\/
  (eY fr.env o.g=false/\ ∃j,cN fr o.dst fN fr.loc=some j/\WX Q f (i+1) R bs l j s N)\/
  (eY fr.env o.g=true/\ ∃c n args v s1 j,o.op= .call c/\yieldee fr.env c=some (n,args)/\iy Q n args s.top v s1/\cN fr o.dst v fr.loc=some j/\s1.ci=s.ci/\s.aL<=s1.aL/\eh b (bD (Q.hint f) o.dst fr.env o.op) true R=true/\WX Q f (i+1) (⟨i, !aK s1.aL s.aL,true,bD (Q.hint f) o.dst fr.env o.op⟩::R) bs l j (s.Gt s1) N)\/
  (eY fr.env o.g=true/\ ∃c g args v j,o.op= .call c/\(∀b,c.callee≠ .builtin b)/\callee fr.env c=some (g,args)/\Q.spec g=none/\aq Q g args s.top v s.top/\cN fr o.dst v fr.loc=some j/\eh b (bD (Q.hint f) o.dst fr.env o.op) false R=true/\WX Q f (i+1) (⟨i,false,false,bD (Q.hint f) o.dst fr.env o.op⟩::R) bs l j s N)
def Uw{o:Op}(h:gQ o=3\/gQ o=0):isStore o=false:=by
 cases o<;>first|rfl|(rcases h with h|h<;>cases h;done)
def PL{a b:Nat}(h:(!aK a b)=false):b=a:=by
 simp_all
def WX.run: ∀ {l:List au} {i:Nat} {R:List gN} {bs:List Nat} {rs:List eZ} {fr:Fr} {s:St} {N:Fr->St->Prop},s.gt<=s.aL->zL rs R->WX Q f i R bs l fr s N-> ∃j s',kw Q f bs rs i l fr s j s'/\N j s'
 | [],i,R,bs,rs,fr,s,N,_,_,h=>⟨fr,s,.nil,by cases bs<;>exact h⟩
 |o::l,i,R,[],rs,fr,s,N,_,_,h=>h.elim
 |o::l,i,R,b::bs,rs,fr,s,N,hm,hr,h=>by
  have U:bh s.aL s.aL=false:=by rw[oc];simp
  rcases h with⟨D,c,v,lc,F,S,E,A,G⟩|⟨D,c,v,lc,F,S,E,A,G⟩|⟨D,c,v,lc,s1,F,S,E,O,M,A,G⟩|⟨D,c,g,args,v,s1,F,J,I,u,_,q,E,O,M,A,G⟩|⟨D,F,E,V⟩|⟨D,c,n,args,v,s1,F,J,u,q,E,O,M,A,G⟩|⟨D,c,g,args,v,F,J,I,u,_,q,E,A,G⟩
  have H:(bh s.top.gt s.aL||isStore o.op)=false:=by rw[Uw (.inl c),jG];exact U
  obtain⟨j,s',w,B⟩:=WX.run (rs:=⟨i,s.aL,s.top.aL,bD (Q.hint f) o.dst fr.env o.op,bh s.top.gt s.aL||isStore o.op⟩::rs) hm (hr.cons rfl (fun _=>rfl) (fun _=>H) rfl) G;rw[<-m8 hm] at w;exact⟨j,s',.step D (v:=v) (lc:=lc) (s1:=s.top) (S _) (u5 hr A fun _=>H) rfl E w,B⟩;have H:(bh s.top.gt s.aL||isStore o.op)=false:=by rw[Uw (.inr c),jG];exact U
  obtain⟨j,s',w,B⟩:=WX.run (rs:=⟨i,s.aL,s.top.aL,bD (Q.hint f) o.dst fr.env o.op,bh s.top.gt s.aL||isStore o.op⟩::rs) hm (hr.cons rfl (fun _=>rfl) (fun _=>H) rfl) G;rw[<-m8 hm] at w;refine⟨j,s',.step D (v:=v) (lc:=lc) (s1:=s.top) ?_ ?_ rfl E w,B⟩;show cw Q f o (iH b rs []) fr s.top=_;rw[yK hr A];exact S;exact u5 hr (wU A) fun _=>H;obtain⟨j,s',w,B⟩:=WX.run (rs:=⟨i,s.aL,s1.aL,bD (Q.hint f) o.dst fr.env o.op,bh s1.gt s.aL||isStore o.op⟩::rs) (pB hm M) (hr.cons rfl (fun h=>PL h) (fun h=>by cases h) rfl) G;refine⟨j,s',.step D (v:=v) (lc:=lc) (s1:=s1) ?_ ?_ O E w,B⟩;show cw Q f o (iH b rs []) fr s.top=_;rw[yK hr A];exact S;exact u5 hr (wU A) fun h=>by cases h
  obtain⟨j,s',w,B⟩:=WX.run (rs:=⟨i,s.aL,s1.aL,bD (Q.hint f) o.dst fr.env o.op,bh s1.gt s.aL||isStore o.op⟩::rs) (pB hm M) (hr.cons rfl (fun h=>PL h) (fun h=>by cases h) rfl) G;refine⟨j,s',.call D J I u (v:=v) (s1:=s1) ?_ ?_ O E w,B⟩;show KS Q g args (iH b rs []) s.top v s1;rw[yK hr A];exact q;exact u5 hr (wU A) fun h=>by cases h
  obtain⟨j,s',w,B⟩:=WX.run (rs:=rs) hm (fun r T=>hr r T) V;exact⟨j,s',.skip D E w,B⟩;obtain⟨j,s',w,B⟩:=WX.run (rs:=⟨i,s.aL,s1.aL,bD (Q.hint f) o.dst fr.env o.op,bh s1.gt s.aL||isStore o.op⟩::rs) (pB hm M) (hr.cons rfl (fun h=>PL h) (fun h=>by cases h) rfl) G;refine⟨j,s',.yld D J u (v:=v) (s1:=s1) ?_ ?_ O E w,B⟩;show Sy Q n args (iH b rs []) s.top v s1;rw[yK hr A];exact q;exact u5 hr (wU A) fun h=>by cases h
  have H:(bh s.top.gt s.aL||isStore o.op)=false:=by
   rw[J];show(bh s.aL s.aL||false)=false;rw[U];rfl
  obtain⟨j,s',w,B⟩:=WX.run (rs:=⟨i,s.aL,s.top.aL,bD (Q.hint f) o.dst fr.env o.op,bh s.top.gt s.aL||isStore o.op⟩::rs) hm (hr.cons rfl (fun _=>rfl) (fun _=>H) rfl) G;rw[<-m8 hm] at w;refine⟨j,s',.call D J I u (v:=v) (s1:=s.top) ?_ ?_ rfl E w,B⟩;show KS Q g args (iH b rs []) s.top v s.top;rw[yK hr A];exact q;exact u5 hr (wU A) fun _=>H
def W.drawX{bs:List Nat}{s:St}{K:Ex->Fr->St->Prop}(j:s.gt<=s.aL)(h:WX Q f 0 [] bs ops fr s fun fr s=>K .normal fr s):W Q f (.draw ops bs) fr s K:=
 let⟨_,_,h1,h2⟩:=WX.run (rs:=[]) j (fun _ h=>by cases h) h
 W.drawR h1 h2
def jY(Q:aD)(f g:FuncId)(args:List aa)(ft:cU)(i:Nat)(R:List gN)(b:Nat)(bs:List Nat)(d:Tmp)(e:aw)(sz:Nat)(lc:Loc)(s:St)(l:List au)(N:Fr->St->Prop):Prop:=
 (∃v s1,aq Q g args s.top v s1/\d<sz/\s1.ci=s.ci/\s.aL<=s1.aL/\eh b ft true R=true/\WX Q f (i+1) (⟨i, !aK s1.aL s.aL,true,ft⟩::R) bs l ⟨e.set d (some v),sz,lc⟩ (s.Gt s1) N)\/
 ∃v,aq Q g args s.top v s.top/\d<sz/\eh b ft false R=true/\WX Q f (i+1) (⟨i,false,false,ft⟩::R) bs l ⟨e.set d (some v),sz,lc⟩ s N
def jY.of{g:FuncId}{args:List aa}{ft:cU}{i:Nat}{R:List gN}{b:Nat}{bs:List Nat}{d:Tmp}{e:aw}{sz:Nat}{lc:Loc}{s s1:St}{l:List au}{N:Fr->St->Prop}{v:aa}(j:aq Q g args s.top v s1)(A:s1.ci=s.ci)(u:s.aL<=s1.aL)(w:d<sz)(q:eh b ft true R=true)(h:WX Q f (i+1) (⟨i, !aK s1.aL s.aL,true,ft⟩::R) bs l ⟨e.set d (some v),sz,lc⟩ (s.Gt s1) N):jY Q f g args ft i R b bs d e sz lc s l N:=.inl ⟨v,s1,j,w,A,u,q,h⟩
def jY.quiet{g:FuncId}{args:List aa}{ft:cU}{i:Nat}{R:List gN}{b:Nat}{bs:List Nat}{d:Tmp}{e:aw}{sz:Nat}{lc:Loc}{s:St}{l:List au}{N:Fr->St->Prop}{v:aa}(j:aq Q g args s.top v s.top)(u:d<sz)(q:eh b ft false R=true)(h:WX Q f (i+1) (⟨i,false,false,ft⟩::R) bs l ⟨e.set d (some v),sz,lc⟩ s N):jY Q f g args ft i R b bs d e sz lc s l N:=.inr ⟨v,j,u,q,h⟩
def jY.calm{g:FuncId}{args:List aa}{ft:cU}{i:Nat}{R:List gN}{b:Nat}{bs:List Nat}{d:Tmp}{e:aw}{sz:Nat}{lc:Loc}{s:St}{l:List au}{N:Fr->St->Prop}{v:aa}(u:s.gt<=s.aL)(j:aq Q g args s.top v s.top)(w:d<sz)(q:eh b ft true R=true)(h:WX Q f (i+1) (⟨i,false,true,ft⟩::R) bs l ⟨e.set d (some v),sz,lc⟩ s N):jY Q f g args ft i R b bs d e sz lc s l N:=
 jY.of j rfl (Nat.le_refl _) w q (by
  have A:(!aK s.top.aL s.aL)=false:=by show(!aK s.aL s.aL)=false;rw[iU];simp
  rw[A,m8 u];exact h)
def Gq(Q:aD)(f n:Nat)(args:List aa)(ft:cU)(i:Nat)(R:List gN)(b:Nat)(bs:List Nat)(d:Tmp)(e:aw)(sz:Nat)(lc:Loc)(s:St)(l:List au)(N:Fr->St->Prop):Prop:=
 ∃v s1,iy Q n args s.top v s1/\d<sz/\s1.ci=s.ci/\s.aL<=s1.aL/\eh b ft true R=true/\WX Q f (i+1) (⟨i, !aK s1.aL s.aL,true,ft⟩::R) bs l ⟨e.set d (some v),sz,lc⟩ (s.Gt s1) N
def Gq.of{n:Nat}{args:List aa}{ft:cU}{i:Nat}{R:List gN}{b:Nat}{bs:List Nat}{d:Tmp}{e:aw}{sz:Nat}{lc:Loc}{s s1:St}{l:List au}{N:Fr->St->Prop}{v:aa}(j:iy Q n args s.top v s1)(A:s1.ci=s.ci)(u:s.aL<=s1.aL)(w:d<sz)(q:eh b ft true R=true)(h:WX Q f (i+1) (⟨i, !aK s1.aL s.aL,true,ft⟩::R) bs l ⟨e.set d (some v),sz,lc⟩ (s.Gt s1) N):Gq Q f n args ft i R b bs d e sz lc s l N:=⟨v,s1,j,w,A,u,q,h⟩
def Ew(Q:aD)(f:FuncId)(c:Nat)(ft:cU)(i:Nat)(R:List gN)(b:Nat)(bs:List Nat)(d:Option Tmp)(e:aw)(sz:Nat)(s:St)(l:List au)(N:Fr->St->Prop)(p:aI->Option (aa×Loc×St)):Prop:=
 (c=3/\ ∃v lc j,(∀mk,p mk=some (v,lc,s.top))/\cN ⟨e,sz,lc⟩ d v lc=some j/\oW b ft false R=true/\WX Q f (i+1) (⟨i,false,false,ft⟩::R) bs l j s N)\/
 (c=0/\ ∃v lc j,p []=some (v,lc,s.top)/\cN ⟨e,sz,lc⟩ d v lc=some j/\eh b ft false R=true/\WX Q f (i+1) (⟨i,false,false,ft⟩::R) bs l j s N)\/
 (c=1/\ ∃v lc s1 j,p []=some (v,lc,s1)/\cN ⟨e,sz,lc⟩ d v lc=some j/\s1.ci=s.ci/\s.aL<=s1.aL/\eh b ft true R=true/\WX Q f (i+1) (⟨i, !aK s1.aL s.aL,true,ft⟩::R) bs l j (s.Gt s1) N)
def Kb(Q:aD)(f:FuncId)(ft:cU)(i:Nat)(R:List gN)(b:Nat)(bs:List Nat)(d:Option Tmp)(e:aw)(sz:Nat)(s:St)(l:List au)(N:Fr->St->Prop)(x:Option (aa×Loc×St)):Prop:=
 ∃v lc j,x=some (v,lc,s.top)/\cN ⟨e,sz,lc⟩ d v lc=some j/\eh b ft false R=true/\WX Q f (i+1) (⟨i,false,false,ft⟩::R) bs l j s N
def Ds(Q:aD)(f:FuncId)(ft:cU)(i:Nat)(R:List gN)(b:Nat)(bs:List Nat)(d:Option Tmp)(e:aw)(sz:Nat)(s:St)(l:List au)(N:Fr->St->Prop)(x:Option (aa×Loc×St)):Prop:=
 ∃v lc s1 j,x=some (v,lc,s1)/\cN ⟨e,sz,lc⟩ d v lc=some j/\s1.ci=s.ci/\s.aL<=s1.aL/\eh b ft true R=true/\WX Q f (i+1) (⟨i, !aK s1.aL s.aL,true,ft⟩::R) bs l j (s.Gt s1) N
def D7(Q:aD)(f:FuncId)(ft:cU)(i:Nat)(R:List gN)(b:Nat)(bs:List Nat)(d:Tmp)(e:aw)(sz:Nat)(lc:Loc)(s:St)(l:List au)(N:Fr->St->Prop)(g:FuncId)(args:List aa):Option (List aa->Option aa)->Prop
 |some sp=>Kb Q f ft i R b bs (some d) e sz s l N ((sp args).bind fun v=>some (v,lc,s.top))
 |none=>jY Q f g args ft i R b bs d e sz lc s l N
def sT(Q:aD)(f:FuncId)(ft:cU)(i:Nat)(R:List gN)(b:Nat)(bs:List Nat)(d:Tmp)(e:aw)(sz:Nat)(lc:Loc)(s:St)(l:List au)(N:Fr->St->Prop):Option aa->Option (List aa)->Prop
 |some (.func (.func g) x y),some args=>D7 Q f ft i R b bs d e sz lc s l N g (x++(args++y)) (Q.spec g)
 |some (.yld n),some args=>Gq Q f n args ft i R b bs d e sz lc s l N
 |_,_=>False
def qr(Q:aD)(f:FuncId)(op:Op)(i:Nat)(R:List gN)(b:Nat)(bs:List Nat)(d:Tmp)(e:aw)(sz:Nat)(lc:Loc)(s:St)(l:List au)(N:Fr->St->Prop):Bool->Prop
 |false=>Ew Q f (gQ op) (bD (Q.hint f) (some d) e op) i R b bs (some d) e sz s l N (fun mk=>cw Q f ⟨some d,op,.aw⟩ mk ⟨e,sz,lc⟩ s.top)
 |true=>match op with
  | .call {callee:=.value x,args:=xs, .. }=>sT Q f (bD (Q.hint f) (some d) e op) i R b bs d e sz lc s l N (ev e x) (evcs e xs.toList)
  |_=>False
def RT(Q:aD)(f:FuncId)(op:Op)(i:Nat)(R:List gN)(b:Nat)(bs:List Nat)(d:Tmp)(e:aw)(sz:Nat)(lc:Loc)(s:St)(l:List au)(N:Fr->St->Prop):Bool->Prop
 |true=>qr Q f op i R b bs d e sz lc s l N (mr op)
 |false=>d<sz/\WX Q f (i+1) R bs l ⟨e.set d (some fN),sz,lc⟩ s N
section
variable{i b c:Nat}{R:List gN}{ft:cU}{bs:List Nat}{d:Tmp}{op:Op}{l:List au}{e:aw}{sz:Nat}{lc:Loc}{s s1:St}{N:Fr->St->Prop}{v:aa}{t:Tmp}{tb:Bool}{x y args:List aa}{sp:List aa->Option aa}{g:FuncId}
theorem qr.to(F:eY e gd=true)(h:qr Q f op i R b bs d e sz lc s l N (mr op)):WX Q f i R (b::bs) (⟨some d,op,gd⟩::l) ⟨e,sz,lc⟩ s N:=by
 have put: ∀ {v j q},cN ⟨e,sz,j⟩ (some d) v j=some q->cN ⟨e,sz,lc⟩ (some d) v j=some q:=fun h=>h;cases hc:mr op with
 |false=>
  rw[hc] at h;rcases h with⟨E,v,j,q,D,A,B⟩|⟨E,v,j,q,D,A,B⟩|⟨E,v,j,s1,q,D,A,B⟩
  exact .inl ⟨F,E,v,j,q,D,put A,B⟩;exact .inr (.inl ⟨F,E,v,j,q,D,put A,B⟩);exact .inr (.inr (.inl ⟨F,E,v,j,s1,q,D,put A,B⟩))
 |true=>
  rw[hc] at h;unfold mr at hc;split at hc;rename_i _ x xs ts;have h:sT Q f (bD (Q.hint f) (some d) e (.call ⟨.value x,xs,ts⟩)) i R b bs d e sz lc s l N (ev e x) (evcs e xs.toList):=h;unfold sT at h;split at h;rename_i g a O args E D;have w:callee e ⟨.value x,xs,ts⟩=some (g,a++(args++O)):=by simp only[callee,E,D,bg]
  unfold D7 at h;split at h;rename_i sp G;obtain⟨v,j,q,A,B,H⟩:=h;simp only[aj,aH,bu] at A;obtain⟨u,I,rfl,rfl,_⟩:=A;refine .inr (.inl ⟨F,rfl,u,lc,q,?_,B,H⟩);show((callee e ⟨.value x,xs,ts⟩).bind fun g=>(Q.spec g.1).bind fun sp=>(sp g.2).bind fun v=>some (v,lc,s.top))=_
  grind
  rename_i G;rcases h with⟨v,s1,A,B,H,I,M,J⟩|⟨v,A,B,H,I⟩
  exact .inr (.inr (.inr (.inl ⟨F,_,g,_,v,s1,_,rfl,by simp,w,G,A,fU.2 ⟨B,rfl⟩,H,I,M,J⟩)));exact .inr (.inr (.inr (.inr (.inr (.inr ⟨F,_,g,_,v,_,rfl,by simp,w,G,A,fU.2 ⟨B,rfl⟩,H,I⟩)))));rename_i n args E D;obtain⟨v,s1,A,B,H,I,M,J⟩:=h;have w:yieldee e ⟨.value x,xs,ts⟩=some (n,args):=by simp only[yieldee,E,D,bg]
  exact .inr (.inr (.inr (.inr (.inr (.inl ⟨F,_,n,args,v,s1,_,rfl,w,A,fU.2 ⟨B,rfl⟩,H,I,M,J⟩)))));exact h.elim;cases hc
theorem L0{e:aw}{x:Operand}{g:FuncId}(h:callee e ⟨.value x,xs,ts⟩=some (g,as)): ∃a b args,ev e x=some (.func (.func g) a b)/\evcs e xs.toList=some args/\as=a++(args++b):=by
 grind [callee,aj]
theorem ayl{e:aw}{x:Operand}{n:Nat}(h:yieldee e ⟨.value x,xs,ts⟩=some (n,as)):ev e x=some (.yld n)/\evcs e xs.toList=some as:=by
 grind [yieldee,aj]
theorem qr.of(Y:eY e gd=true)(h:WX Q f i R (b::bs) (⟨some d,op,gd⟩::l) ⟨e,sz,lc⟩ s N):qr Q f op i R b bs d e sz lc s l N (mr op):=by
 cases hc:mr op with
 |false=>
  rcases h with⟨_,j,v,B,q,A,w,D⟩|⟨_,j,v,B,q,A,w,D⟩|⟨_,j,v,B,s1,q,A,w,D⟩|⟨_,c,g,args,v,s1,q,j,A,w,_⟩|⟨j,_⟩|⟨_,c,n,args,v,s1,q,j,w,_⟩|⟨_,c,g,args,v,q,j,A,w,_⟩
  exact .inl ⟨j,v,B,q,A,w,D⟩;exact .inr (.inl ⟨j,v,B,q,A,w,D⟩);exact .inr (.inr ⟨j,v,B,s1,q,A,w,D⟩);have j:op= .call c:=j;subst j;obtain⟨O,as,ts⟩:=c;cases O with
  |builtin x=>exact absurd rfl (A x)
  |value x=>cases hc
  |invoke x y=>cases w
  grind
  have j:op= .call c:=j;subst j;obtain⟨O,as,ts⟩:=c;cases O with
  |builtin x=>cases w
  |value x=>cases hc
  |invoke x y=>cases w
  have j:op= .call c:=j;subst j;obtain⟨O,as,ts⟩:=c;cases O with
  |builtin x=>exact absurd rfl (A x)
  |value x=>cases hc
  |invoke x y=>cases w
 |true=>
  unfold mr at hc;split at hc;rename_i _ x xs ts;show sT Q f (bD (Q.hint f) (some d) e (.call ⟨.value x,xs,ts⟩)) i R b bs d e sz lc s l N (ev e x) (evcs e xs.toList);rcases h with⟨_,j,_⟩|⟨_,j,v,B,q,A,w,D⟩|⟨_,j,_⟩|⟨_,c,g,args,v,s1,q,j,A,w,D,M,J,I⟩|⟨j,_⟩|⟨_,c,n,args,v,s1,q,j,w,M,J,I⟩|⟨_,c,g,args,v,q,j,A,w,D,M,J,I⟩
  cases j;have A:((callee e ⟨.value x,xs,ts⟩).bind fun g=>(Q.spec g.1).bind fun sp=>(sp g.2).bind fun v=>some (v,lc,s.top))=some (v,B,s.top):=A;simp only[aj,aH,bu] at A;obtain⟨⟨g,as⟩,V,sp,S,u,U,rfl,rfl,_⟩:=A;obtain⟨a,T,args,F,E,rfl⟩:=L0 V;simp only[F,E,sT];have S:Q.spec g=some sp:=S;rw[S];exact⟨u,lc,q,by simp only[U,bg],w,D⟩;cases j;have j:Op.call ⟨.value x,xs,ts⟩= .call c:=j;injection j with j
  subst j;obtain⟨a,T,G,F,E,rfl⟩:=L0 w;simp only[F,E,sT];rw[D];obtain⟨H,rfl⟩:=fU.1 J;exact .inl ⟨v,s1,M,H,I⟩
  grind
  have j:Op.call ⟨.value x,xs,ts⟩= .call c:=j;injection j with j
  subst j;obtain⟨F,E⟩:=ayl w;simp only[F,E,sT];obtain⟨H,rfl⟩:=fU.1 J;exact⟨v,s1,M,H,I⟩;have j:Op.call ⟨.value x,xs,ts⟩= .call c:=j;injection j with j
  subst j;obtain⟨a,T,G,F,E,rfl⟩:=L0 w;simp only[F,E,sT];rw[D];obtain⟨H,rfl⟩:=fU.1 J;exact .inr ⟨v,M,H,I⟩;cases hc
def aeU:WX Q f i R bs [] fr s N=N fr s:=by cases bs<;>rfl
def aeT:WX Q f i R (b::bs) (⟨some d,op,.aw⟩::l) ⟨e,sz,lc⟩ s N=qr Q f op i R b bs d e sz lc s l N (mr op):=propext ⟨qr.of rfl,qr.to rfl⟩
theorem aeX:WX Q f i R (b::bs) (⟨some d,op,.when t tb⟩::l) ⟨e,sz,lc⟩ s N=RT Q f op i R b bs d e sz lc s l N (kn (ac e t) tb):=by
 apply propext;have j:eY e (.when t tb)=kn (ac e t) tb:=pZ ..;cases hv:kn (ac e t) tb with
 |true=>
  rw[hv] at j;exact⟨qr.of j,qr.to j⟩
 |false=>
  rw[hv] at j;constructor
  ·rintro(⟨h,_⟩|⟨h,_⟩|⟨h,_⟩|⟨h,_⟩|⟨_,A,w,u⟩|⟨h,_⟩|⟨h,_⟩)
   grind
   grind
   grind
   grind
   obtain⟨q,rfl⟩:=fU.1 w;exact⟨q,u⟩
   all_goals grind
  exact fun h=>.inr (.inr (.inr (.inr (.inl ⟨j,_,fU.2 ⟨h.1,rfl⟩,h.2⟩))))
theorem Tr(D:gQ op=1):WX Q f i R (b::bs) (⟨none,op,.aw⟩::l) ⟨e,sz,lc⟩ s N=Ds Q f (bD (Q.hint f) none e op) i R b bs none e sz s l N (cw Q f ⟨none,op,.aw⟩ [] ⟨e,sz,lc⟩ s.top):=by
 apply propext;constructor;intro h;rcases h with⟨_,j,_⟩|⟨_,j,_⟩|⟨_,j,v,w,s1,q,A,u,E⟩|⟨_,c,g,args,v,s1,q,j,A,u,_⟩|⟨j,_⟩|⟨_,c,n,args,v,s1,q,j,u,_⟩|⟨_,c,g,args,v,q,j,A,u,_⟩
 grind
 grind
 exact⟨v,w,s1,q,A,u,E⟩;have j:op= .call c:=j;subst j;obtain⟨B,as,ts⟩:=c;cases B with
 |builtin x=>exact absurd rfl (A x)
 |value x=>cases D
 |invoke x y=>cases u
 cases j;have j:op= .call c:=j;subst j;obtain⟨B,as,ts⟩:=c;cases B with
 |builtin x=>cases u
 |value x=>cases D
 |invoke x y=>cases u
 have j:op= .call c:=j;subst j;obtain⟨B,as,ts⟩:=c;cases B with
 |builtin x=>exact absurd rfl (A x)
 |value x=>cases D
 |invoke x y=>cases u
 rintro⟨v,w,s1,q,A,u,E⟩;exact .inr (.inr (.inl ⟨rfl,D,v,w,s1,q,A,u,E⟩))
def aeV{a x:Operand}:WX Q f i R (b::bs) (⟨none,.store ty a x,.aw⟩::l) ⟨e,sz,lc⟩ s N=Ds Q f (bD (Q.hint f) none e (.store ty a x)) i R b bs none e sz s l N (cw Q f ⟨none,.store ty a x,.aw⟩ [] ⟨e,sz,lc⟩ s.top):=Tr rfl
def aeW{m k x:Operand}:WX Q f i R (b::bs) (⟨none,.mapUpdate ty m k x,.aw⟩::l) ⟨e,sz,lc⟩ s N=Ds Q f (bD (Q.hint f) none e (.mapUpdate ty m k x)) i R b bs none e sz s l N (cw Q f ⟨none,.mapUpdate ty m k x,.aw⟩ [] ⟨e,sz,lc⟩ s.top):=Tr rfl
def axM:RT Q f op i R b bs d e sz lc s l N true=qr Q f op i R b bs d e sz lc s l N (mr op):=rfl
def axL:RT Q f op i R b bs d e sz lc s l N false=(d<sz/\WX Q f (i+1) R bs l ⟨e.set d (some fN),sz,lc⟩ s N):=rfl
def ahK:qr Q f op i R b bs d e sz lc s l N false=Ew Q f (gQ op) (bD (Q.hint f) (some d) e op) i R b bs (some d) e sz s l N (fun mk=>cw Q f ⟨some d,op,.aw⟩ mk ⟨e,sz,lc⟩ s.top):=rfl
def ahJ{x:Operand}:qr Q f (.call ⟨.value x,xs,ts⟩) i R b bs d e sz lc s l N true=sT Q f (bD (Q.hint f) (some d) e (.call ⟨.value x,xs,ts⟩)) i R b bs d e sz lc s l N (ev e x) (evcs e xs.toList):=rfl
def af8:sT Q f ft i R b bs d e sz lc s l N (some (.func (.func g) x y)) (some args)=D7 Q f ft i R b bs d e sz lc s l N g (x++(args++y)) (Q.spec g):=rfl
def af9{n:Nat}:sT Q f ft i R b bs d e sz lc s l N (some (.yld n)) (some args)=Gq Q f n args ft i R b bs d e sz lc s l N:=rfl
def af7:D7 Q f ft i R b bs d e sz lc s l N g args (some sp)=Kb Q f ft i R b bs (some d) e sz s l N ((sp args).bind fun v=>some (v,lc,s.top)):=rfl
def af6:D7 Q f ft i R b bs d e sz lc s l N g args none=jY Q f g args ft i R b bs d e sz lc s l N:=rfl
def aj1:Ew Q f 3 ft i R b bs (some d) e sz s l N (fun _=>some (v,lc,s.top))=(d<sz/\oW b ft false R=true/\WX Q f (i+1) (⟨i,false,false,ft⟩::R) bs l ⟨e.set d (some v),sz,lc⟩ s N):=by
 apply propext;constructor;rintro(⟨_,D,w,B,h,u,q,j⟩|⟨h,_⟩|⟨h,_⟩);have h:=h [];simp only[aH,bu,aT] at h;obtain⟨rfl,rfl⟩:=h;obtain⟨A,rfl⟩:=fU.1 u;exact⟨A,q,j⟩;cases h;cases h;rintro⟨u,q,j⟩;exact .inl ⟨rfl,v,lc,_,fun _=>rfl,fU.2 ⟨u,rfl⟩,q,j⟩
def ajZ{d:Option Tmp}:Ew Q f 0 ft i R b bs d e sz s l N p=Kb Q f ft i R b bs d e sz s l N (p []):=by
 apply propext;constructor;rintro(⟨h,_⟩|⟨_,h⟩|⟨h,_⟩);cases h;exact h;cases h;exact fun h=>.inr (.inl ⟨rfl,h⟩)
def aj0{d:Option Tmp}:Ew Q f 1 ft i R b bs d e sz s l N p=Ds Q f ft i R b bs d e sz s l N (p []):=by
 apply propext;constructor;rintro(⟨h,_⟩|⟨h,_⟩|⟨_,h⟩);cases h;cases h;exact h;exact fun h=>.inr (.inr ⟨rfl,h⟩)
def av9:Kb Q f ft i R b bs (some d) e sz s l N (some (v,lc,s.top))=(d<sz/\eh b ft false R=true/\WX Q f (i+1) (⟨i,false,false,ft⟩::R) bs l ⟨e.set d (some v),sz,lc⟩ s N):=by
 apply propext;constructor;rintro⟨E,u,D,h,q,j,A⟩;simp only[aH,bu,aT] at h;obtain⟨rfl,rfl⟩:=h;obtain⟨w,rfl⟩:=fU.1 q;exact⟨w,j,A⟩;rintro⟨q,B,j⟩;exact⟨v,lc,_,rfl,fU.2 ⟨q,rfl⟩,B,j⟩
def awb:Ds Q f ft i R b bs (some d) e sz s l N (some (v,lc,s1))=(s1.ci=s.ci/\d<sz/\s.aL<=s1.aL/\eh b ft true R=true/\WX Q f (i+1) (⟨i, !aK s1.aL s.aL,true,ft⟩::R) bs l ⟨e.set d (some v),sz,lc⟩ (s.Gt s1) N):=by
 apply propext;constructor;rintro⟨F,B,s',E,h,A,w,u,q,j⟩;simp only[aH,bu] at h;obtain⟨rfl,rfl,rfl⟩:=h;obtain⟨D,rfl⟩:=fU.1 A;exact⟨w,D,u,q,j⟩;rintro⟨A,w,u,q,j⟩;exact⟨v,lc,_,_,rfl,fU.2 ⟨w,rfl⟩,A,u,q,j⟩
def awa:Ds Q f ft i R b bs none e sz s l N (some (v,lc,s1))=(s1.ci=s.ci/\s.aL<=s1.aL/\eh b ft true R=true/\WX Q f (i+1) (⟨i, !aK s1.aL s.aL,true,ft⟩::R) bs l ⟨e,sz,lc⟩ (s.Gt s1) N):=by
 apply propext;constructor;rintro⟨E,B,s',A,h,j,D,w,u,q⟩;simp only[aH,bu] at h;obtain⟨rfl,rfl,rfl⟩:=h;have j:A=⟨e,sz,lc⟩:=(sI j).symm;subst j;exact⟨D,w,u,q⟩;rintro⟨j,w,u,q⟩;exact⟨v,lc,_,⟨e,sz,lc⟩,rfl,rfl,j,w,u,q⟩
end
def aya(t:TypeId)(a:Operand):gQ (.load t a)=0:=rfl
def ayi(t:TypeId)(a x:Operand):gQ (.store t a x)=1:=rfl
def axX(t:TypeId):gQ (.alloc t)=1:=rfl
def ax1(t:TypeId)(x:Operand):gQ (.box t x)=1:=rfl
def ax6(t:TypeId)(a:Operand)(i:Nat):gQ (.fieldAddr t a i)=3:=rfl
def ax8(t:TypeId)(a i:Operand):gQ (.indexAddr t a i)=3:=rfl
def ax7(t:TypeId)(a i:Operand):gQ (.index t a i)=3:=rfl
def aye(a:Operand):gQ (.move a)=3:=rfl
def axZ(a:Operand):gQ (.assign a)=3:=rfl
def ayg(a b c:Operand):gQ (.pick a b c)=3:=rfl
def ax2(t:TypeId)(ps:Array (Nat×Operand)):gQ (.build t ps)=3:=rfl
def ax3(t:TypeId)(n:Nat)(ps:Array (Nat×Operand)):gQ (.buildSlice t n ps)=1:=rfl
def ax0(o:BinOp)(t u:TypeId)(x y:Operand):gQ (.binOp o t x y u)=3:=rfl
def ayj(o:UnOp)(t:TypeId)(x:Operand):gQ (.unOp o t x)=3:=rfl
def ax5(a:Operand)(i:Nat):gQ (.extract a i)=3:=rfl
def ayh(t:TypeId)(x:Operand)(a b c:Option Operand):gQ (.slice t x a b c)=0:=rfl
def ayb(t:TypeId)(x i:Operand)(b:Bool):gQ (.lookup t x i b)=0:=rfl
def axY(as:Array Operand)(ts:Array TypeId):gQ (.call ⟨.builtin .append,as,ts⟩)=1:=rfl
def ax9(as:Array Operand)(ts:Array TypeId):gQ (.call ⟨.builtin .len,as,ts⟩)=0:=rfl
def ayd(as:Array Operand)(ts:Array TypeId):gQ (.call ⟨.builtin .min,as,ts⟩)=0:=rfl
def ayc(as:Array Operand)(ts:Array TypeId):gQ (.call ⟨.builtin .max,as,ts⟩)=0:=rfl
def akh(h:Tmp->Nat)(d:Option Tmp)(e:aw)(t:TypeId)(x i:Operand)(b:Bool):bD h d e (.lookup t x i b)= .all:=rfl
def akm(h:Tmp->Nat)(d:Option Tmp)(e:aw)(a b c:Operand):bD h d e (.pick a b c)= .none:=rfl
def akd(h:Tmp->Nat)(d:Option Tmp)(e:aw)(t:TypeId)(x i:Operand):bD h d e (.index t x i)= .none:=rfl
def akq(h:Tmp->Nat)(d:Option Tmp)(e:aw)(t:TypeId)(m k x:Operand):bD h d e (.mapUpdate t m k x)= .all:=rfl
def akj(h:Tmp->Nat)(d:Option Tmp)(e:aw)(as:Array Operand)(ts:Array TypeId):bD h d e (.call ⟨.builtin .min,as,ts⟩)= .none:=rfl
def aki(h:Tmp->Nat)(d:Option Tmp)(e:aw)(as:Array Operand)(ts:Array TypeId):bD h d e (.call ⟨.builtin .max,as,ts⟩)= .none:=rfl
def goL:aa->cU
 | .map _=>.all
 |_=>.none
def akf(h:Tmp->Nat)(d:Option Tmp)(e:aw)(t:Tmp)(ts:Array TypeId):bD h d e (.call ⟨.builtin .len,#[.tmp t],ts⟩)=goL (ac e t):=by
 show(match ev e (.tmp t) with|some (.map _)=>cU.all|_=>.none)=_;rw[dR];cases ac e t<;>rfl
def V6:aa->cU
 | .ptr n _=>.obj n
 |_=>.none
def akn(h:Tmp->Nat)(d:Option Tmp)(e:aw)(ty:TypeId)(t:Tmp)(a b c:Option Operand):bD h d e (.slice ty (.tmp t) a b c)=V6 (ac e t):=by
 show(match ev e (.tmp t) with|some (.ptr n _)=>cU.obj n|_=>.none)=_;rw[dR];cases ac e t<;>rfl
def ajY(n o:Nat):V6 (.ptr n o)= .obj n:=rfl
def ajO(n o:Nat):HD (.ptr n o)= .obj n:=rfl
def ajV(n o:Nat):Cc (.ptr n o)= .none:=rfl
def ajS(a b c d e:Nat):Cc (.arr a b c d e)= .none:=rfl
def ajT(n:Nat)(xs:List aa)(r:nL):Cc (.list n xs r)= .none:=rfl
def aqD(t n:Nat):xu (.loc t) (.obj n)=false:=rfl
def ar8(t n:Nat):xu (.obj n) (.loc t)=false:=rfl
def ayk(t:TypeId)(m k x:Operand):gQ (.mapUpdate t m k x)=1:=rfl
def arM(s:St)(o:aJ):(s.new o).aL=s.aL+1:=rfl
def atS(s:St)(n:Nat)(o:Option aJ):(s.put n o).aL=s.aL:=rfl
def arL(s:St)(o:aJ):(s.new o).ci=s.ci:=rfl
def atQ(s:St)(n:Nat)(o:Option aJ):(s.put n o).ci=s.ci:=rfl
def afF(n:Nat):(n+1==n)=false:=by simp
def ap1(n:Nat):(n<=n+1)=True:=eq_true (Nat.le_succ n)
def WE(Q:aD)(f:FuncId):SC->Fr->St->(Ex->Fr->St->Prop)->Prop
 | .skip,fr,s,K=>K .normal fr s
 | .ret,fr,s,K=>K .ret fr s
 | .exit id,fr,s,K=>K (.exit id) fr s
 | .seq a b,fr,s,K=>WE Q f a fr s (Ex.next K fun fr s=>WE Q f b fr s K)
 | .cond o a b,fr,s,K=>(ev fr.env o=some (.bool true)/\WE Q f a fr s K)\/(ev fr.env o=some (.bool false)/\WE Q f b fr s K)
 | .block id b,fr,s,K=>WE Q f b fr s fun x=>K (x.block id)
 | .scope b,fr,s,K=>WE Q f b fr s K
 | .region ops,fr,s,K=>WV Q f ops fr s fun fr s=>K .normal fr s
 | .draw ops bs,fr,s,K=>W Q f (.draw ops bs) fr s K
 | .loop b,fr,s,K=>W Q f (.loop b) fr s K
 | .rfun g ps a b,fr,s,K=>W Q f (.rfun g ps a b) fr s K
 | .bad,fr,s,K=>W Q f .bad fr s K
def WE.sound: ∀ {c:SC} {fr:Fr} {s:St} {K:Ex->Fr->St->Prop},WE Q f c fr s K->W Q f c fr s K
 | .skip,_,_,_,h=>lY h
 | .ret,_,_,_,h=>W.ret h
 | .exit _,_,_,_,h=>W.exit h
 | .seq a b,fr,s,K,h=>cK ((WE.sound (c:=a) h).mono fun x fr s j=>by
  cases x with
  |normal=>exact WE.sound (c:=b) j
  |exit i=>exact j
  |ret=>exact j)
 | .cond o a b,fr,s,K,h=>by
   rcases h with⟨u,q⟩|⟨u,q⟩
   exact jc (t:=true) u (WE.sound (c:=a) q);exact jc (t:=false) u (WE.sound (c:=b) q)
 | .block id b,fr,s,K,h=>W.block (WE.sound (c:=b) h)
 | .scope b,fr,s,K,h=>W.scope (WE.sound (c:=b) h)
 | .region ops,fr,s,K,h=>W.region (WV.run h)
 | .draw ops bs,fr,s,K,h=>h
 | .loop _,_,_,_,h=>h
 | .rfun _ _ _ _,_,_,_,h=>h
 | .bad,_,_,_,h=>h
def Eg(Q:aD)(f:FuncId)(a b:SC)(e:aw)(sz:Nat)(lc:Loc)(s:St)(K:Ex->Fr->St->Prop)(v:Option aa):Prop:=(v=some (.bool true)/\WE Q f a ⟨e,sz,lc⟩ s K)\/(v=some (.bool false)/\WE Q f b ⟨e,sz,lc⟩ s K)
section
variable{e:aw}{sz:Nat}{lc:Loc}{s:St}{K:Ex->Fr->St->Prop}{a b:SC}
def ad5:WE Q f .skip ⟨e,sz,lc⟩ s K=K .normal ⟨e,sz,lc⟩ s:=rfl
def ad1:WE Q f .ret ⟨e,sz,lc⟩ s K=K .ret ⟨e,sz,lc⟩ s:=rfl
def adY{id:Nat}:WE Q f (.exit id) ⟨e,sz,lc⟩ s K=K (.exit id) ⟨e,sz,lc⟩ s:=rfl
def ad4:WE Q f (.seq a b) ⟨e,sz,lc⟩ s K=WE Q f a ⟨e,sz,lc⟩ s (Ex.next K fun fr s=>WE Q f b fr s K):=rfl
def adW:WE Q f (.cond o a b) ⟨e,sz,lc⟩ s K=Eg Q f a b e sz lc s K (ev e o):=rfl
def adV{id:Nat}:WE Q f (.block id b) ⟨e,sz,lc⟩ s K=WE Q f b ⟨e,sz,lc⟩ s fun x=>K (x.block id):=rfl
def ad3:WE Q f (.scope b) ⟨e,sz,lc⟩ s K=WE Q f b ⟨e,sz,lc⟩ s K:=rfl
def ad0:WE Q f (.region ops) ⟨e,sz,lc⟩ s K=WV Q f ops ⟨e,sz,lc⟩ s fun fr s=>K .normal fr s:=rfl
def adX{bs:List Nat}:WE Q f (.draw ops bs) ⟨e,sz,lc⟩ s K=W Q f (.draw ops bs) ⟨e,sz,lc⟩ s K:=rfl
def adZ:WE Q f (.loop b) ⟨e,sz,lc⟩ s K=W Q f (.loop b) ⟨e,sz,lc⟩ s K:=rfl
def ad2{p q:Code}:WE Q f (.rfun h ps p q) ⟨e,sz,lc⟩ s K=W Q f (.rfun h ps p q) ⟨e,sz,lc⟩ s K:=rfl
def ahs:Eg Q f a b e sz lc s K (some (.bool true))=WE Q f a ⟨e,sz,lc⟩ s K:=by simp[Eg]
def ahr:Eg Q f a b e sz lc s K (some (.bool false))=WE Q f b ⟨e,sz,lc⟩ s K:=by simp[Eg]
def W.loopE(h:WE Q f b fr s (Ex.next K fun fr s=>W Q f (.loop b) fr s K)):W Q f (.loop b) fr s K:=W.loop1 h.sound
end
end
def jg:Ex->Bool
 | .normal=>true
 |_=>false
def jj:Ex->Option Ex
 | .normal=>none
 |x=>some x
variable{s:St}{Q:aD}
def iy.any{f:FuncId}{n:Nat}{env j:aC aa}{size:Nat}{a b:Code}{ca cb:SC}{P:aa->St->Prop}(H:s.get [] n=some (.loop f env size ps a b none))(G:ps.all (fun t=>bh t size)=true)(F:Ga ps args env=some j)(D:dJ a=ca)(B:dJ b=cb)(h:W Q f ca ⟨j,size,[]⟩ (s.put n none) fun x fr s1=>x= .normal/\W Q f cb fr s1 fun x _ u=>P (.bool (jg x)) (u.put n (some (.loop f env size ps a b (jj x))))): ∃v s',iy Q n args s v s'/\P v s':=by
 obtain⟨x,J,s1,A,rfl,y,I,u,w,E⟩:=h;obtain⟨k,hk⟩:=QO A D;obtain⟨m,q⟩:=QO w B;have hk:=(m9 Q (Nat.le_max_left k m)).code _ _ _ _ _ _ hk;have q:=(m9 Q (Nat.le_max_right k m)).code _ _ _ _ _ _ q;refine⟨_,_,⟨max k m,?_⟩,E⟩;unfold mO;cases y<;>simp only[H,bg,Be,G,cT,F,hk,zq,q,Bd,jg,jj]
namespace aC
theorem all_of{α:Type}{p:α->Bool}: ∀ {t:aC α},(∀n x,t.get n=some x->p x=true)->t.all p=true
 | .nil,_=>rfl
 | .node l v r,h=>by
   have q:l.all p=true:=all_of fun n x u=>h (2*n+1) x (by
    grind [get_node])
   have j:r.all p=true:=all_of fun n x u=>h (2*n+2) x (by
    grind [get_node])
   cases v with
   |none=>
    show(true&&(l.all p&&r.all p))=true;rw[q,j];rfl
   |some z=>
    show(p z&&(l.all p&&r.all p))=true;rw[q,j,h 0 z (by rw[get_node,iP rfl])];rfl
theorem all_set{p:α->Bool}{t:aC α}{n:Nat}{x:α}(h:t.all p=true)(q:p x=true):(t.set n (some x)).all p=true:=all_of fun m y j=>by
 grind [get_set,all_get]
end aC
theorem rD(s:St)(n m:Nat)(o:Option aJ):(s.put n o).get [] m=bif m==n then o else s.get [] m:=by
 grind [St.get,St.put,dy,aC.get_set]
variable{seen:List Nat}{it m:Nat}
section
variable{α:Type}[DecidableEq α]{enc:α->aa}
def cX(enc:α->aa)(n:Nat):List (α×aa)->List dj
 | []=>[]
 |(k,v)::l=>⟨enc k,v,n⟩::cX enc (n+1) l
def cu(k:α):List (α×aa)->Option aa
 | []=>none
 |(a,v)::l=>if k=a then some v else cu k l
def jk(k:α):List (α×aa)->Nat
 | []=>0
 |(a,_)::l=>if k=a then 0 else jk k l+1
def ee(k:α)(v:aa):List (α×aa)->List (α×aa)
 | []=>[(k,v)]
 |(a,u)::l=>if k=a then(k,v)::l else(a,u)::ee k v l
structure Bt (P:Program) (kt:TypeId) (enc:α->aa):Prop where
 eq: ∀a b,j1 P 8 kt (enc a) (enc b)=some (decide (a=b))
 same: ∀a,tz (enc a) (enc a)=true
 ge: ∀a,(enc a).ge=true
def bJ(enc:α->aa)(s:St)(m:Nat)(L:List (α×aa)):Prop:=s.get [] m=some (.map (cX enc 0 L) L.length)
omit [DecidableEq α] in
theorem Ms: ∀(l r:List (α×aa)) (n:Nat),cX enc n (l++r)=cX enc n l++cX enc (n+l.length) r
 | [],r,n=>rfl
 |(a,v)::l,r,n=>by
  simp only[qW,cX,Ms l r (n+1),dM]
  grind
omit [DecidableEq α] in
def Mv: ∀(l:List (α×aa)) (n:Nat),(cX enc n l).length=l.length
 | [],_=>rfl
 |(a,v)::l,n=>by simp only[cX,dM,Mv l]
theorem Pn(k j:α)(v:aa): ∀l,cu j (ee k v l)=if j=k then some v else cu j l
 | []=>rfl
 |(a,u)::l=>by
  simp only[ee];by_cases h:k=a
  grind [cu]
  simp only[iN h,cu,Pn k j v l]
  grind
def uR{k:α}{v:aa}: ∀ {l},cu k l=none->ee k v l=l++[(k,v)]
 | [],_=>rfl
 |(a,u)::l,h=>by
  simp only[cu] at h;by_cases h1:k=a;simp[h1] at h;rw[iN h1] at h;simp only[ee,iN h1,uR h,qW]
theorem HH{k:α}{v u:aa}: ∀ {l:List (α×aa)},cu k l=some u->(ee k v l).length=l.length
 | [],h=>by cases h
 |(a,w)::l,h=>by
  simp only[cu] at h;by_cases h1:k=a;simp[ee,h1];rw[iN h1] at h;simp only[ee,iN h1,dM,HH h]
theorem WN{k:α}{v:aa}: ∀ {l:List (α×aa)},cu k l=some v->ee k v l=l
 | [],h=>by cases h
 |(a,w)::l,h=>by
  simp only[cu] at h;by_cases h1:k=a
  grind [ee]
  rw[iN h1] at h;simp only[ee,iN h1,WN h]
def abw{k:α}: ∀ {l:List (α×aa)},cu k l=none->jk k l=l.length
 | [],_=>rfl
 |(a,u)::l,h=>by
  simp only[cu] at h;by_cases h1:k=a;simp[h1] at h;rw[iN h1] at h;simp only[jk,iN h1,abw h,dM]
def abv{k:α}{v:aa}: ∀ {l:List (α×aa)},jk k (ee k v l)=jk k l
 | []=>by simp[ee,jk]
 |(a,u)::l=>by
  by_cases h1:k=a;simp[ee,jk,h1];simp only[ee,jk,iN h1,abv]
def Mx{k:α}{u v:aa}: ∀ {l:List (α×aa)} {n:Nat},cu k l=some u->(cX enc n l).set (jk k l) ⟨enc k,v,n+jk k l⟩=cX enc n (ee k v l)
 | [],_,h=>by cases h
 |(a,w)::l,n,h=>by
  simp only[cu] at h;by_cases h1:k=a;simp[ee,jk,cX,h1];rw[iN h1] at h;simp only[ee,jk,cX,iN h1,List.set_cons_succ];rw[<-Mx (l:=l) (n:=n+1) h,show n+(jk k l+1)=n+1+jk k l by omega]
theorem acf{k:α}{u v:aa}: ∀ {l:List (α×aa)} {n:Nat},cu k l=some u->y9 (n+jk k l) v (cX enc n l)=some (cX enc n (ee k v l))
 | [],_,h=>by cases h
 |(a,w)::l,n,h=>by
  simp only[cu] at h;by_cases h1:k=a;subst h1;simp[ee,jk,cX,y9];rw[iN h1] at h;have q:aK n (n+(jk k l+1))=false:=by rw[iU];exact bN.2 (by omega)
  have j:=acf (v:=v) (l:=l) (n:=n+1) h
  grind [ee,jk,cX,y9]
section
variable{P:Program}{kt:TypeId}(hK:Bt P kt enc)
include hK
theorem B5: ∀(l:List (α×aa)) (k:α) (n i:Nat),mW P kt (enc k) (cX enc n l) i=some ((cu k l).map fun v=>(i+jk k l,⟨enc k,v,n+jk k l⟩))
 | [],k,n,i=>rfl
 |(a,v)::l,k,n,i=>by
  simp only[cX,mW,hK.eq,bg,cu,jk];by_cases h:k=a;subst h;simp;simp only[dN h,cF,iN h];rw[B5 l k (n+1) (i+1)]
  grind
variable{t e:TypeId}(hk: ∀k:α,lh P t (enc k)=some (kt,e))
include hk
theorem qC{z:aa}(hz:dX P e=some z){l:List (α×aa)}(j:bJ enc s m l)(k:α):n8 P [] t (.map m) (enc k) false s=some ((cu k l).getD z):=by
 have j:s.get [] m=_:=j;simp only[n8,hk,bg,hz,Az,j,B5 hK l k 0 0];cases cu k l<;>rfl
def od(z:aa):Option aa->aa
 |some v=>.tup [v,.bool true]
 |none=>.tup [z,.bool false]
theorem yG{z:aa}(hz:dX P e=some z){l:List (α×aa)}(j:bJ enc s m l)(k:α):n8 P [] t (.map m) (enc k) true s=some (od z (cu k l)):=by
 have j:s.get [] m=_:=j;simp only[n8,hk,bg,hz,Az,j,B5 hK l k 0 0];cases cu k l<;>rfl
theorem vz{l:List (α×aa)}(j:bJ enc s m l)(k:α)(v:aa):qV P [] t (.map m) (enc k) v s=some (s.put m (some (.map (cX enc 0 (ee k v l)) (ee k v l).length))):=by
 have j:s.get [] m=_:=j;simp only[qV,hk,bg,j,B5 hK l k 0 0];cases h:cu k l with
 |none=>
  simp only[sD,uR h,Ms,cD,dM,cV,eH];rfl
 |some u=>
  have:=Mx (enc:=enc) (v:=v) (n:=0) h;rw[eH] at this;simp only[jI,hK.same,cT,eH,this,HH h]
theorem ahS{z:aa}(hz:dX P e=some z){l:List (α×aa)}(j:bJ enc s m l)(k:α):rM P [] t (.map m) (enc k) s=some (.tup [(cu k l).getD z,.int .i64 (jk k l:Nat)],s.put m (some (.map (cX enc 0 (ee k ((cu k l).getD z) l)) (ee k ((cu k l).getD z) l).length))):=by
 have j:s.get [] m=_:=j;simp only[rM,hk,bg,hz,j,B5 hK l k 0 0];cases h:cu k l with
 |none=>
  simp only[sD,Option.getD_none,uR h,Ms,cD,dM,cV,eH,abw h];rfl
 |some u=>
  have:=Mx (enc:=enc) (v:=u) (n:=0) h;rw[eH] at this;simp only[jI,zD,hK.same,cT,eH,this,HH h]
omit hK hk in
theorem Vq{l:List (α×aa)}{k:α}{u:aa}(j:bJ enc s m l)(h:cu k l=some u)(v:aa):uF [] (.map m) (.int .i64 (jk k l:Nat)) v s=some (s.put m (some (.map (cX enc 0 (ee k v l)) (ee k v l).length))):=by
 have j:s.get [] m=_:=j;have q:=acf (enc:=enc) (v:=v) (n:=0) h
 grind [uF,pE,HH]
omit hK hk [DecidableEq α] in
theorem bJ.put{L:List (α×aa)}:bJ enc (s.put m (some (.map (cX enc 0 L) L.length))) m L:=by
 show(s.put m _).get [] m=_;rw[rD,bS];rfl
end
omit [DecidableEq α] in
theorem Em: ∀(L:List (α×aa)) (n:Nat) (e:dj),e∈cX enc n L->n<=e.born/\e.born<n+L.length
 | [],n,e,h=>by cases h
 |(a,v)::L,n,e,h=>by
  rcases dl.1 h with rfl|h
  grind
  have:=Em L (n+1) e h;simp only[dM];omega
omit [DecidableEq α] in
omit [DecidableEq α] in
theorem Mu: ∀(L:List (α×aa)) (n:Nat) (e:dj),e∈cX enc n L-> ∃p:α×aa,L[e.born-n]? =some p/\e.key=enc p.1/\e.val=p.2
 | [],n,e,h=>by cases h
 |(a,v)::L,n,e,h=>by
  rcases dl.1 h with rfl|h
  exact⟨(a,v),by simp,rfl,rfl⟩;obtain⟨p,q,j⟩:=Mu L (n+1) e h
  have:=Em L (n+1) e h
  grind
omit [DecidableEq α] in
def Mw: ∀(L:List (α×aa)) (n i:Nat) (p:α×aa),L[i]? =some p->⟨enc p.1,p.2,n+i⟩∈cX enc n L
 | [],n,i,p,h=>by cases h
 |(a,v)::L,n,0,p,h=>by
  simp only[gi,aH] at h;subst h;exact gF
 |(a,v)::L,n,i+1,p,h=>by
  rw[iJ] at h
  have:=Mw L (n+1) i p h;rw[show n+(i+1)=n+1+i by omega];exact List.mem_cons_of_mem _ this
omit [DecidableEq α] in
def VA: ∀(L:List (α×aa)) (n:Nat) (e:dj),e∈cX enc n L->Ab e.born (cX enc n L)=some e
 | [],n,e,h=>by cases h
 |(a,v)::L,n,e,h=>by
  simp only[cX,Ab];rcases dl.1 h with rfl|h
  simp;have j:=Em L (n+1) e h;have:aK n e.born=false:=by
   rw[iU];exact bN.2 (by omega)
  rw[this];exact VA L (n+1) e h
theorem Pv{es:List dj}{e:dj}:e∈lS seen es↔e∈es/\e.born ∉ seen:=by
 simp only[lS,List.mem_filter,mQ,List.any_eq_false];constructor;rintro⟨u,q⟩;exact⟨u,fun j=>q _ j (by simp)⟩
 grind [jr]
structure iK (enc:α->aa) (s:St) (it m:Nat) (L:List (α×aa)) (seen:List Nat):Prop where
 hi:s.get [] it=some (.iter (some m) L.length seen L.length)
 hm:bJ enc s m L
 nd:seen.Nodup
 lt: ∀b∈seen,b<L.length
omit [DecidableEq α] in
theorem iK.calm{L:List (α×aa)}(c:iK enc s it m L seen)(ch kmax:Nat->Nat):oS [] ch kmax (.ptr it 0) false s=tH ch kmax it m L.length seen L.length (lS seen (cX enc 0 L)) s:=by
 have j:s.get [] m=_:=c.hm;simp only[oS,c.hi,j,bg,cF];have:(!seen.isEmpty&& !(cX enc 0 L).isEmpty&&(cX enc 0 L).all fun e=>bn L.length e.born)=false:=by
  cases L with
  |nil=>simp[cX]
  |cons x L=>
   grind [cX,bn]
 rw[this];rfl
omit [DecidableEq α] in
theorem iK.aL{L:List (α×aa)}(c:iK enc s it m L seen)(ch kmax:Nat->Nat)(hk: ∀i,L.length<=kmax i):
 (seen.Perm (List.range L.length)/\oS [] ch kmax (.ptr it 0) false s=some (.tup [.bool false],s))\/
 ∃(b:Nat) (p:α×aa) (s':St),L[b]? =some p/\b ∉ seen/\seen.length<L.length/\oS [] ch kmax (.ptr it 0) false s=some (.tup [.bool true,enc p.1,p.2],s')/\(∀n,n≠it->s'.get [] n=s.get [] n)/\s'.get [] it=some (.iter (some m) L.length (seen++[b]) L.length)/\s'.aL=s.aL/\s'.gt=(s.put it none).gt:=by
 rw[c.calm];have u: ∀e∈lS seen (cX enc 0 L),bh e.born L.length=true:=fun e J=>by
  have:=Em L 0 e (Pv.1 J).1;exact cE (by omega)
 have q:(lS seen (cX enc 0 L)).length<=L.length:=by
  have w:(lS seen (cX enc 0 L)).length<=(cX enc 0 L).length:=List.length_filter_le _ _;rw[Mv] at w;exact w
 have F: ∀b,b<L.length->b ∉ seen->seen.length<L.length:=fun b j B=>by
  have w:(b::seen).Nodup:=Bo.2 ⟨B,c.nd⟩;have D:(b::seen) ⊆ List.range L.length:=fun x E=>by
   rcases dl.1 E with rfl|E
   exact xF.2 j;exact xF.2 (c.lt x E)
  have:=w.length_le_of_subset D
  grind
 have pick: ∀(e:dj) (s1:St),e∈lS seen (cX enc 0 L)->s1.heap=(s.put it (some (.iter (some m) L.length (seen++[e.born]) L.length))).heap->s1.aL=s.aL->s1.gt=(s.put it none).gt->
  ∃(b:Nat) (p:α×aa) (s':St),L[b]? =some p/\b ∉ seen/\seen.length<L.length/\some (aa.tup [.bool true,e.key,e.val],s1)=some (.tup [.bool true,enc p.1,p.2],s')/\(∀n,n≠it->s'.get [] n=s.get [] n)/\s'.get [] it=some (.iter (some m) L.length (seen++[b]) L.length)/\s'.aL=s.aL/\s'.gt=(s.put it none).gt:=fun e s1 J O B G=>by
  obtain⟨w,D⟩:=Pv.1 J;obtain⟨p,U,T,S⟩:=Mu L 0 e w;have Y:=Em L 0 e w;have V: ∀n,s1.get [] n=(s.put it (some (.iter (some m) L.length (seen++[e.born]) L.length))).get [] n:=fun n=>by
   show(bif dy [] n then none else s1.heap.get n)=_;rw[O];rfl
  refine⟨e.born,p,s1,by simpa using U,D,F _ (by omega) D,by rw[T,S],fun n M=>?_,?_,B,G⟩
  all_goals grind [rD]
 cases hu:lS seen (cX enc 0 L) with
 |nil=>
  refine .inl ⟨?_,rfl⟩;refine(List.perm_ext_iff_of_nodup c.nd List.nodup_range).2 fun b=>⟨fun j=>xF.2 (c.lt b j),fun j=>?_⟩;have j:=xF.1 j;refine Decidable.byContradiction fun B=>?_;have:(⟨enc (L[b]).1,(L[b]).2,0+b⟩:dj)∈lS seen (cX enc 0 L):=Pv.2 ⟨Mw L 0 b _ (fE j),by simpa using B⟩;rw[hu] at this;cases this
 |cons e r=>
  right;rw[hu] at u q pick;have j:((e::r).all fun e=>bh e.born L.length)=true:=fu.2 u;cases r with
  |nil=>
   have:=pick e (vr it m L.length L.length seen e s).2 (by simp) rfl rfl rfl;simp only[tH,j,cT];exact this
  |cons A r=>
   have I:bn (e::A::r).length (kmax s.ci)=true:=cE (Nat.le_trans q (hk _));have H:ch s.ci % (e::A::r).length<(e::A::r).length:=Nat.mod_lt _ (by simp)
   have:=pick (e::A::r)[ch s.ci % (e::A::r).length] { (vr it m L.length L.length seen (e::A::r)[ch s.ci % (e::A::r).length] s).2 with ci:=s.ci+1 } (List.getElem_mem _) rfl rfl rfl;simp only[tH,j,cT,I,fE H,bg];exact this
omit [DecidableEq α] in
theorem iK.entry{L:List (α×aa)}{b:Nat}{p:α×aa}(u:s.get [] it=some (.iter (some m) L.length (seen++[b]) L.length))(j:bJ enc s m L)(q:L[b]? =some p):wg [] (.ptr it 0) s=some (.tup [enc p.1,p.2]):=by
 have j:s.get [] m=_:=j;have w:=VA (enc:=enc) L 0 _ (Mw L 0 b p q)
 grind [wg,iU]
omit [DecidableEq α] in
theorem iK.go{b:Nat}{L:List (α×aa)}{p:α×aa}(c:iK enc s it m L seen)(q:m≠it)(D:L[b]? =some p)(B:b ∉ seen)(u: ∀n,n≠it->s'.get [] n=s.get [] n)(w:s'.get [] it=some (.iter (some m) L.length (seen++[b]) L.length)):iK enc s' it m L (seen++[b]):=
 ⟨w,(u m q).trans c.hm,List.nodup_append.2 ⟨c.nd,by simp,fun x j y A e=>by grind⟩,fun x j=>by
  rcases List.mem_append.1 j with j|j
  exact c.lt x j
  grind⟩
omit [DecidableEq α] in
theorem iK.begin{L:List (α×aa)}(q:bJ enc s m L)(u:m<s.aL):iK enc (s.new (.iter (some m) L.length [] L.length)) s.aL m L []:=by
 have j: ∀n,(s.new (.iter (some m) L.length [] L.length)).get [] n=bif n==s.aL then some (.iter (some m) L.length [] L.length) else s.get [] n:=fun n=>by
  grind [St.get,St.new,dy,aC.get_set]
 refine⟨by rw[j,bS];rfl,?_,List.nodup_nil,fun _ h=>by cases h⟩;show(s.new _).get [] m=_;rw[j,bN.2 (by omega:m≠s.aL)];exact q
omit [DecidableEq α] in
theorem iK.new{P:Program}{t kt e:TypeId}(q:P.underlying t=some (.map kt e)){L:List (α×aa)}(j:bJ enc s m L):tM P [] t (.map m) s=some (.ptr s.aL 0,s.new (.iter (some m) L.length [] L.length)):=by
 have j:s.get [] m=_:=j;simp only[tM,q,bg,j]
end
section
variable{Q:aD}{f:FuncId}{e:aw}{sz:Nat}{lc:Loc}{s:St}{d:Option Tmp}{g:SG}{mk:aI}
def Hz(t:TypeId)(x:Operand):cw Q f ⟨d,.range t x,g⟩ mk ⟨e,sz,lc⟩ s=(evc e x).bind fun x=>f8 (tM Q.P mk t x s) lc:=rfl
def ye(x:Operand)(b:Bool):cw Q f ⟨d,.next x b,g⟩ mk ⟨e,sz,lc⟩ s=(evc e x).bind fun it=>f8 (oS mk Q.ch Q.kmax it b s) lc:=rfl
def Ev(x:Operand):cw Q f ⟨d,.entry x,g⟩ mk ⟨e,sz,lc⟩ s=(evc e x).bind fun it=>eX (wg mk it s) lc s:=rfl
def Nb(t:TypeId)(m k:Operand):cw Q f ⟨d,.mapEntry t m k,g⟩ mk ⟨e,sz,lc⟩ s=(evc e m).bind fun m=>(evc e k).bind fun k=>f8 (rM Q.P mk t m k s) lc:=rfl
def Na(t:TypeId)(m j x:Operand):cw Q f ⟨d,.entryStore t m j x,g⟩ mk ⟨e,sz,lc⟩ s=(evc e m).bind fun m=>(evc e j).bind fun j=>(evc e x).bind fun x=>nz (uF mk m j x s) lc:=rfl
end
theorem VZ(s:St)(m:Nat)(o:aJ):(s.new o).get [] m=bif m==s.aL then some o else s.get [] m:=by
 grind [St.get,St.new,dy,aC.get_set]
theorem Fw(s:St)(n:Nat)(o:Option aJ)(h:s.gt<=s.aL):(s.put n o).gt<=(s.put n o).aL:=by
 show(bif bn s.gt n then s.gt else n)<=s.aL
 grind [cE]
variable{lo:Nat}
section
variable{α:Type}[DecidableEq α]{enc:α->aa}
def gc(K:List α)(f:α->aa):List (α×aa):=K.map fun k=>(k,f k)
def jT{β:Type}(f:α->β)(k:α)(v:β):α->β:=fun x=>if x=k then v else f x
def eC(k:α)(K:List α):List α:=if k∈K then K else K++[k]
theorem oo{β:Type}(f:α->β)(k:α)(v:β):jT f k v k=v:=by simp[jT]
theorem jU{β:Type}(f:α->β){k x:α}(v:β)(h:x≠k):jT f k v x=f x:=by simp[jT,h]
theorem nf{k x:α}{K:List α}:x∈eC k K↔x=k\/x∈K:=by
 grind [eC]
theorem xN{k:α}{K:List α}(h:K.Nodup):(eC k K).Nodup:=by
 grind [eC]
theorem ae3(k:α)(K:List α):K.length<=(eC k K).length/\(eC k K).length<=K.length+1:=by
 grind [eC]
omit [DecidableEq α] in
def tT(K:List α)(f:α->aa):(gc K f).length=K.length:=bP ..
def Cw(k:α)(f:α->aa): ∀K:List α,cu k (gc K f)=if k∈K then some (f k) else none
 | []=>rfl
 |a::K=>by
  show(if k=a then some (f a) else cu k (gc K f))=_;by_cases h:k=a;subst h;simp;rw[iN h,Cw k f K];simp[h]
omit [DecidableEq α] in
theorem Kg{K:List α}{f g:α->aa}(h: ∀k∈K,f k=g k):gc K f=gc K g:=List.map_congr_left fun k hk=>by rw[h k hk]
theorem Cg{k:α}{v:aa}(f:α->aa): ∀ {K:List α},K.Nodup->ee k v (gc K f)=gc (eC k K) (jT f k v)
 | [],_=>by simp[gc,ee,eC,jT]
 |a::K,nd=>by
  have j:=Bo.1 nd;show ee k v ((a,f a)::gc K f)=_;by_cases h:k=a;subst h;have q:k∈k::K:=gF;simp only[ee,if_true,eC,iP q];show _=(k,jT f k v k)::gc K (jT f k v)
  grind [Kg,jT]
  have u:=Cg (k:=k) (v:=v) f j.2
  grind [eC,ee,gc,jU]
variable{β:Type}{encE:β->aa}
structure sK (enc:α->aa) (encE:β->aa) (s:St) (m lo:Nat) (K:List α) (V:α->List β) (T:α->Nat):Prop where
 hm:bJ enc s m (gc K fun k=>.list 1 ((V k).map encE) (.own (T k)))
 nd:K.Nodup
 tok: ∀k∈K,s.get [] (T k)=some .tok/\lo<=T k/\T k<s.aL
 inj: ∀k∈K, ∀k'∈K,T k=T k'->k=k'
 out: ∀k,k ∉ K->V k=[]
 mlt:m<lo
 los:lo<=s.aL
omit [DecidableEq α] in
def sK.mono{K:List α}{V:α->List β}{T:α->Nat}(h:sK enc encE s m lo K V T)(q:s'.get [] m=s.get [] m)(j: ∀k∈K,s'.get [] (T k)=s.get [] (T k))(u:s.aL<=s'.aL):sK enc encE s' m lo K V T:=
 ⟨q.trans h.hm,h.nd,fun k hk=>⟨(j k hk).trans (h.tok k hk).1,(h.tok k hk).2.1,by have:=(h.tok k hk).2.2;omega⟩,h.inj,h.out,h.mlt,by have:=h.los;omega⟩
section
variable{P:Program}{kt t e:TypeId}(hK:Bt P kt enc)(hk: ∀k:α,lh P t (enc k)=some (kt,e))(hz:dX P e=some .AL)
include hK hk hz
theorem sK.look{K:List α}{V:α->List β}{T:α->Nat}(h:sK enc encE s m lo K V T)(k:α): ∃v,n8 P [] t (.map m) (enc k) false s=some v/\ax 1 encE v (V k):=by
 have j:=qC hK hk hz h.hm k;rw[Cw] at j;by_cases hm:k∈K;rw[iP hm] at j;exact⟨_,j,.inr ⟨_,rfl⟩⟩;rw[iN hm] at j;exact⟨_,j,.inl ⟨rfl,h.out k hm⟩⟩
theorem sK.app{ts:TypeId}{E:EI}(hE:lQ P ts=some E)(hn:E.n=1)(hb: ∀n,n<=1000000->iY n E.b=true){K:List α}{V:α->List β}{T:α->Nat}(h:sK enc encE s m lo K V T)(k:α)(x:β)(a9:(V k).length<1000000)(a0:s.gt<=s.aL):
 ∃(v0:aa) (p:Nat) (s1:St) (ov:aa) (s2 S:St),rM P [] t (.map m) (enc k) s=some (.tup [v0,.int .i64 (p:Nat)],s1)/\v0.ge=true/\fB P [] ts v0 (.list 1 [encE x] .GE) false s1=some (ov,s2)/\ov.ge=true/\uF [] (.map m) (.int .i64 (p:Nat)) ov s2=some S/\
  sK enc encE S m lo (eC k K) (jT V k (V k++[x])) (jT T k s.aL)/\(∀n,n<lo->n≠m->S.get [] n=s.get [] n)/\S.aL=s.aL+1/\S.ci=s.ci/\S.gt<=S.aL:=by
 have w:=ahS hK hk hz h.hm k;have hr:iY ((V k).length+1) E.b=true:=hb _ (by omega);have a2:=h.mlt;have a3:=h.los;have a1:m≠s.aL:=by omega
 rw[Cw] at w;by_cases hmem:k∈K;rw[iP hmem] at w;have U:ee k (.list 1 ((V k).map encE) (.own (T k))) (gc K fun k=>.list 1 ((V k).map encE) (.own (T k)))=gc K fun k=>.list 1 ((V k).map encE) (.own (T k)):=WN (by rw[Cw,iP hmem]);simp only[zD,U] at w;obtain⟨t1,t2,t3⟩:=h.tok k hmem;have a4:T k≠m:=by omega
 have G:eC k K=K:=by unfold eC;rw[iP hmem]
 generalize hp:jk k (gc K fun k=>aa.list 1 ((V k).map encE) (.own (T k)))=p at w;have a8:(s.put m (some (.map (cX enc 0 (gc K fun k=>.list 1 ((V k).map encE) (.own (T k)))) (gc K fun k=>aa.list 1 ((V k).map encE) (.own (T k))).length))).get [] (T k)=some .tok:=by rw[rD,bN.2 a4];exact t1
 generalize hs1:s.put m (some (.map (cX enc 0 (gc K fun k=>.list 1 ((V k).map encE) (.own (T k)))) (gc K fun k=>aa.list 1 ((V k).map encE) (.own (T k))).length))=s1 at w a8;have n1:s1.aL=s.aL:=by rw[<-hs1];rfl
 have g1: ∀n,n≠m->s1.get [] n=s.get [] n:=fun n Y=>by grind [rD]
 have m1:bJ enc s1 m (gc K fun k=>.list 1 ((V k).map encE) (.own (T k))):=by rw[<-hs1];exact bJ.put
 have w1:s1.gt<=s1.aL:=by rw[<-hs1];exact Fw _ _ _ a0
 have g2: ∀n,((s1.put (T k) none).new .tok).get [] n=bif n==s.aL then some .tok else bif n==T k then none else s1.get [] n:=fun n=>by rw[VZ,rD];show(bif n==s1.aL then _ else _)=_;rw[n1]
 have m2:bJ enc ((s1.put (T k) none).new .tok) m (gc K fun k=>.list 1 ((V k).map encE) (.own (T k))):=by
  show St.get _ [] m=_;rw[g2,bN.2 a1,bN.2 a4.symm];exact m1
 have H:=Vq (v:=.list 1 ((V k++[x]).map encE) (.own s.aL)) m2 (k:=k) (u:=.list 1 ((V k).map encE) (.own (T k))) (by rw[Cw,iP hmem]);rw[hp,Cg _ h.nd,G] at H;refine⟨_,p,s1,.list 1 ((V k++[x]).map encE) (.own s.aL),(s1.put (T k) none).new .tok,_,w,rfl,?_,rfl,H,⟨?_,by rw[G];exact h.nd,fun j D=>?_,fun j D O J e=>?_,fun j D=>?_,a2,?_⟩,fun n hn Y=>?_,by show s1.aL+1=_;rw[n1],?_,?_⟩
 grind [fB,em,iU,jM]
 grind [jT,Kg,bJ.put]
 rw[G] at D;by_cases q:j=k;subst q;rw[oo];refine⟨?_,a3,?_⟩
 grind [rD]
 show s.aL<s1.aL+1;omega;obtain⟨u1,u2,u3⟩:=h.tok j D;rw[jU _ _ q];have e1:T j≠m:=by omega
 have e2:T j≠s.aL:=by omega
 have e3:T j≠T k:=fun e=>q (h.inj j D k hmem e);refine⟨?_,u2,?_⟩
 grind [rD]
 show T j<s1.aL+1;omega;rw[G] at D J;by_cases q:j=k<;>by_cases B:O=k;rw[q,B];subst q;rw[oo,jU _ _ B] at e
 have:=(h.tok O J).2.2;omega;subst B;rw[oo,jU _ _ q] at e
 have:=(h.tok j D).2.2;omega;rw[jU _ _ q,jU _ _ B] at e;exact h.inj j D O J e;rw[G] at D;have q:j≠k:=fun e=>D (e▸hmem);rw[jU _ _ q];exact h.out j D;show lo<=s1.aL+1;omega
 grind [rD]
 show s1.ci=_;rw[<-hs1];rfl;refine Fw _ _ _ ?_;exact bU (Fw _ _ _ w1);rw[iN hmem] at w;have hV:=h.out k hmem;have G:eC k K=K++[k]:=by unfold eC;rw[iN hmem]
 simp only[Option.getD_none] at w;rw[Cg _ h.nd] at w;generalize hp:jk k (gc K fun k=>aa.list 1 ((V k).map encE) (.own (T k)))=p at w;generalize hF:jT (fun k=>aa.list 1 ((V k).map encE) (.own (T k))) k .AL=F at w;generalize hs1:s.put m (some (.map (cX enc 0 (gc (eC k K) F)) (gc (eC k K) F).length))=s1 at w;have n1:s1.aL=s.aL:=by rw[<-hs1];rfl
 have g1: ∀n,n≠m->s1.get [] n=s.get [] n:=fun n Y=>by grind [rD]
 have m1:bJ enc s1 m (gc (eC k K) F):=by rw[<-hs1];exact bJ.put
 have w1:s1.gt<=s1.aL:=by rw[<-hs1];exact Fw _ _ _ a0
 have g2: ∀n,(s1.new .tok).get [] n=bif n==s.aL then some .tok else s1.get [] n:=fun n=>by rw[VZ,n1]
 have m2:bJ enc (s1.new .tok) m (gc (eC k K) F):=by
  show St.get _ [] m=_;rw[g2,bN.2 a1];exact m1
 have a5:jk k (gc (eC k K) F)=p:=by
  rw[<-hp,<-hF,<-Cg _ h.nd,abv]
 have H:=Vq (v:=.list 1 ([x].map encE) (.own s.aL)) m2 (k:=k) (u:=F k) (by rw[Cw,iP (nf.2 (.inl rfl))]);rw[a5,Cg _ (xN h.nd)] at H;have Z:eC k (eC k K)=eC k K:=by
  have:k∈eC k K:=nf.2 (.inl rfl);generalize eC k K=A at this ⊢;unfold eC;rw[iP this]
 rw[Z] at H;refine⟨.AL,p,s1,.list 1 ([x].map encE) (.own s.aL),s1.new .tok,_,w,rfl,?_,rfl,H,⟨?_,xN h.nd,fun j D=>?_,fun j D O J e=>?_,fun j D=>?_,a2,?_⟩,fun n hn Y=>?_,by show s1.aL+1=_;rw[n1],?_,?_⟩
 grind [iY,fB,em,iU,jM,kB]
 have:gc (eC k K) (jT F k (.list 1 ([x].map encE) (.own s.aL)))=gc (eC k K) fun j=>.list 1 ((jT V k (V k++[x]) j).map encE) (.own (jT T k s.aL j)):=Kg fun j _=>by
  by_cases q:j=k
  grind [oo]
  rw[<-hF];simp only[jU _ _ q]
 rw[this];exact bJ.put;rcases nf.1 D with rfl|D
 rw[oo];refine⟨?_,a3,?_⟩
 grind [rD]
 show s.aL<s1.aL+1;omega;obtain⟨u1,u2,u3⟩:=h.tok j D;have q:j≠k:=fun e=>hmem (e▸D);rw[jU _ _ q];have e1:T j≠m:=by omega
 have e2:T j≠s.aL:=by omega
 refine⟨?_,u2,?_⟩
 grind [rD]
 show T j<s1.aL+1;omega;rcases nf.1 D with q|qj<;>rcases nf.1 J with B|M
 rw[q,B];have I:O≠k:=fun e=>hmem (e▸M);rw[q,oo,jU _ _ I] at e
 have:=(h.tok O M).2.2;omega;have I:j≠k:=fun e=>hmem (e▸qj);rw[B,oo,jU _ _ I] at e
 have:=(h.tok j qj).2.2;omega;have I:j≠k:=fun e=>hmem (e▸qj);have a6:O≠k:=fun e=>hmem (e▸M);rw[jU _ _ I,jU _ _ a6] at e;exact h.inj j qj O M e;have a7:j≠k:=fun e=>D (nf.2 (.inl e));rw[jU _ _ a7];exact h.out j fun hm=>D (nf.2 (.inr hm));show lo<=s1.aL+1;omega
 grind [rD]
 show s1.ci=_;rw[<-hs1];rfl;exact Fw _ _ _ (bU w1)
end
end
def Ha(n o:Nat):(aa.ptr n o).cells=[.ptr n o]:=rfl
def BH(f:Fn)(a b:List aa):(aa.func f a b).cells=[.func f a b]:=rfl
def ayf(a:Operand):gQ (.nilCheck a)=3:=rfl
def akl(h:Tmp->Nat)(d:Option Tmp)(e:aw)(a:Operand):bD h d e (.nilCheck a)=qy e a:=rfl
attribute[go_sem]Tg Tf Tk acI adF adE isStore fZ fT DZ KZ S9 Td Rn acH adC adB adA adz adx adw adv adu ady aal aak iV uM gw gI Zf abf P9 abh aaZ aa1 aa2 aa3 abb abi aa0 abj aa7 aa8 aa9 aba Qd abc Qe abe abd abg aa6 aa4 aa5 Uv dR My Vr Vs Vu Vt rR ni FE Uh Ug Y7 I6 abt abr abq pE QF abV abU T8 T7 T6 nP T0 T9 TZ Ua Um Uo Un Ui Ul Uj Uk adk Uc Ub Wf lK UB UA Uz L1 acM Option.bind_some Option.bind_none UN UQ UY UM UR UX UW US UV UU UT zW cond_true cond_false List.length_cons List.length_nil cut eM List.head?_cons List.drop_succ_cons List.drop_zero List.take_succ_cons List.take_zero List.nil_append List.cons_append List.append_nil yj Bool.not_true Bool.not_false beq_self_eq_true Nat.beq_eq_true_eq and_true true_and Nat.zero_add Nat.add_zero Bool.true_and Bool.and_true Bool.false_and Bool.and_false Bool.not_not iU oc Je decide_true decide_false So Sl Si Sn Sg Sf Sm Sk Sh Sj Vf Ve ZS PO fJ rq Uf LN K4 Tn Tp Tq adH adG acL acK te or_true true_or false_or m8 ada eq_self Bool.true_or Bool.false_or Bool.or_true Bool.or_false iu FZ abk abl abm abn Option.map_some Option.some.injEq ofValue pF aeE aeD av5 av6 av7 av8 asl asj asn asm ajM arS afa aqB aqC awP Nat.le_refl akg ako akc ake akk aj4 aj7 aj8 aj5 akp akb aj2 aj6 aj9 aj3 ajQ ajX ajN ajU ajP ajW ags agu agh agl agq agr agt agj agm agn agk agv agp ago agi mL Bool.or_self Bool.and_self wP ew List.getElem?_cons_zero List.getElem?_cons_succ KJ KF KA KI Ky Kx KH KD Kz KC KG Mm Ml K7 K5 K6 K8 Nr Nq Mp Mo LY LZ LX LW Rq Rp mr pD ad5 ad1 adY ad4 adW adV ad3 ad0 adX adZ ad2 ahs ahr aeU aeT aeX aeV aeW axM axL ahK ahJ af8 af9 af7 af6 aj1 ajZ aj0 av9 awb awa aya ayi axX ax1 ax6 ax8 ax7 aye axZ ayg ax2 ax3 ax0 ayj ax5 ayh ayb axY ax9 ayd ayc lL akh akm akd akq akj aki akf akn ajY ajO ajV ajS ajT aqD ar8 ayk arM atS arL atQ afF ap1 Ha BH ayf akl
section
variable(P:Program)
def Vx(t f:Nat):Option Nat:=(P.underlying t).bind fun
 | .struct fields=>(fields[f]?).bind fun j=>(df P j.type).bind fun n=>bif aK n 0 then none else some j.offset
 |_=>none
abbrev bX(t f k:Nat):Prop:= ∀lc:Loc,(∀l g o,sY P lc t (.Ge l g o) f=bif aK (lc.gen l) g then some (.Ge l g (o+k)) else none)/\(∀cs,sY P lc t (.ro cs) f=some (.ro (cs.drop k)))/\ ∀m o,sY P lc t (.ptr m o) f=some (.ptr m (o+k))
abbrev fY(t n b:Nat)(g:Bool)(z:aa):Prop:=lQ P t=some ⟨n,b,g,z⟩/\rH P t=true/\(∀lc m xs r i,ii P lc t (.list m xs r) i=(dr i).bind fun i=>bif aK m n&&bh i xs.length then some (.ro (ng xs i).cells) else none)/\(∀lc a m o l c i,ii P lc t (.arr a m o l c) i=(dr i).bind fun i=>bif aK a n&&bh i l then some (.ptr m (o+i*n)) else none)/\(∀mk s,iG P mk t .AL s=some (.int .i64 (0:Nat)))/\ ∀mk n xs r s,iG P mk t (.list n xs r) s=some (.int .i64 (xs:List aa).length)
abbrev dH(t:Nat):Prop:= ∀cs off,iq P t cs off=(cs.drop off).head?
abbrev fy(t n:Nat):Prop:= ∀cs off,iq P t cs off=(cut cs off n).bind fun r=>some (.agg r)
abbrev gL(t:Nat)(l:List (Nat×Nat)):Prop:= ∀ps e,sS P t ps e=(dX P t).bind fun z=>(bc (fun i=>l[i]?) e z.cells ps).bind fun c=>some (.agg c)
abbrev ue(t n:Nat):Prop:= ∀ps e,sS P t ps e=(dX P t).bind fun z=>(bc (fun i=>some (i*n,n)) e z.cells ps).bind fun c=>some (.agg c)
def TU(t:Nat):Option (List (Nat×Nat)):=(P.underlying t).bind fun
 | .struct fields=>C4 P fields.toList
 |_=>none
def back(t:Nat):Option Nat:=(P.underlying t).bind fun
 | .array _ e=>df P e
 |_=>none
end
variable{P:Program}{t f k n b:Nat}{g:Bool}{z:aa}
def bX.of(h:Vx P t f=some k:=by kernel_rfl):bX P t f k:=by
 intro lc;unfold Vx at h;unfold sY;cases e:P.underlying t with
 |none=>rw[e] at h;cases h
 |some d=>
  rw[e] at h;cases d<;>try (cases h;done)
  rename_i j;simp only[bg] at h ⊢;cases e1:j[f]? with
  |none=>rw[e1] at h;cases h
  |some q=>
   rw[e1] at h;simp only[bg] at h ⊢;cases e2:df P q.type with
   |none=>rw[e2] at h;cases h
   |some m=>
    rw[e2] at h;simp only[bg] at h ⊢;cases e3:aK m 0 with
    |true=>rw[e3] at h;cases h
    |false=>
     rw[e3] at h;simp only[cF,aH] at h ⊢;subst h;exact⟨fun _ _ _=>rfl,fun _=>rfl,fun _ _=>rfl⟩
def fY.of(h:lQ P t=some ⟨n,b,g,z⟩:=by kernel_rfl):fY P t n b g z:=by
 refine⟨h,?_⟩;unfold lQ at h;cases e:P.underlying t with
 |none=>rw[e] at h;cases h
 |some d=>
  rw[e] at h;cases d<;>try (cases h;done)
  rename_i w;simp only[bg,x6] at h;cases e1:df P w with
  |none=>rw[e1] at h;cases h
  |some m=>
   rw[e1] at h;have q:m=n:=by
    simp only[bg,aj] at h;obtain⟨A,_,u,_,j,_,h⟩:=h;cases hc:(bh 0 m&&aK j.cells.length m&&(u||aK m 1)&&bh 0 A) with
    |false=>rw[hc] at h;cases h
    |true=>rw[hc] at h;injection h with h;injection h
   subst q;refine⟨by unfold rH;rw[e],fun lc a xs r i=>?_,fun lc a B o l c i=>?_,fun mk s=>?_,fun mk a xs r s=>?_⟩
   all_goals simp only[ii,iG,e,bg,e1]
   rfl
def dH.of(h:Ao P t=some false:=by kernel_rfl):dH P t:=fun cs j=>by
 unfold iq;rw[h];simp only[bg,cF];cases cs.drop j<;>rfl
def fy.of(h:Ao P t=some true:=by kernel_rfl)(q:df P t=some n:=by kernel_rfl):fy P t n:=fun cs j=>by
 unfold iq;rw[h,q];rfl
def gL.of{l:List (Nat×Nat)}(h:TU P t=some l:=by kernel_rfl):gL P t l:=fun ps e=>by
 unfold TU at h;unfold sS;cases e1:P.underlying t with
 |none=>rw[e1] at h;cases h
 |some d=>
  rw[e1] at h;cases d<;>try (cases h;done)
  simp only[bg] at h ⊢;rw[h];rfl
def ue.of(h:back P t=some n:=by kernel_rfl):ue P t n:=fun ps e=>by
 unfold back at h;unfold sS;cases e1:P.underlying t with
 |none=>rw[e1] at h;cases h
 |some d=>
  rw[e1] at h;cases d<;>try (cases h;done)
  simp only[bg] at h ⊢;rw[h];rfl
def ax.lenS{enc:α->aa}{l:List α}(h:ax n enc v l)(F:fY P t m b g z)(mk:aI)(s:St):iG P mk t v s=some (.int .i64 (l.length:Nat)):=h.len F.2.2.2.2.1 F.2.2.2.2.2 mk s
def bZ(a:α): ∃x,a=x:=⟨a,rfl⟩
def vD{n:Nat}(h:n<9223372036854775807):IntKind.i64.wrap ((n:Int)+1)=((n+1:Nat):Int):=by rw[jE (by omega) (by omega)];omega
def W.cnTZ{f:FuncId}{b:SC}(h:W Q f a fr s K)(j:ev fr.env o=some (.bool true):=by simp only[dR,iV,Nat.reduceBEq,cT,cF, *]):W Q f (.cond o a b) fr s K:=W.cond (t:=true) j h
def W.cnFZ{f:FuncId}{b:SC}(h:W Q f b fr s K)(j:ev fr.env o=some (.bool false):=by simp only[dR,iV,Nat.reduceBEq,cT,cF, *]):W Q f (.cond o a b) fr s K:=W.cond (t:=false) j h
def W.cnSZ{f:FuncId}(h:K .normal fr s)(j:ev fr.env o=some (.bool false):=by simp only[dR,iV,Nat.reduceBEq,cT,cF, *]):W Q f (.cond o a .skip) fr s K:=W.cond (t:=false) j (W.skip h)
