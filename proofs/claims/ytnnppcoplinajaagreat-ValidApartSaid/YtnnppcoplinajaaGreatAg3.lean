/- Lemmas for ValidApart. -/
import Derived.Test.YtnnppcoplinajaaGreatAg2
import Derived.Attr
import Derived.KernelRfl
set_option linter.all false
open Bool renaming and_eq_true→bu,and_true→je,not_eq_true'→awP,or_eq_true→zQ,or_false→kh
open Go.Ag.dt renaming meets→aqs
open List renaming all_eq_true→f8,append_nil→kC,cons_append→lY,getElem?_cons_succ→jO,getElem?_cons_zero→iw,getElem?_eq_getElem→gn,length_append→cJ,length_cons→bH,length_map→ce,length_nil→bn,mem_cons_self→iL,mem_cons→fc,mem_range→uD,nil_append→oP,nodup_cons→DZ
open Nat renaming beq→aQ,ble_eq_true_of_le→cP,ble→bw,blt→bm,eq_of_beq_eq_true→jP,le_of_ble_eq_true→fW,le_succ_of_le→cq,reduceBEq→ah,zero_add→bV
open Option renaming bind_eq_some_iff→ak,bind_some→au,getD_some→wt,map_none→sF,map_some→kn
open Option.some renaming injEq→aJ
open Prod.mk renaming injEq→bI
open Go.Ag.St renaming get→awQ
open Go.Ag.W renaming cond→cQ,seq→cU,skip→fX
namespace Go.Ag
variable{fr:Fr}{N:Fr->Prop}{fn:Func}{bs:List Nat}{args:List aa}{l ops:List aw}{rs:List fZ}{op:Op}{c sc:SC}{α:Type}{v:aa}{o:aw}
section
variable{Q:aH}{f:FuncId}
def vr(x:Option (aa×Loc×St))(K:aa->Loc->St->Prop):Prop:=
 match x with
 |some (v,l,s)=>K v l s
 |none=>False
def Yx(v:aa)(l:Loc)(s:St)(K:aa->Loc->St->Prop):vr (some (v,l,s)) K=K v l s:=rfl
def Yw(K:aa->Loc->St->Prop):vr none K=False:=rfl
def WP(Q:aH)(f:FuncId)(ops:List aw)(fr:Fr)(s:St)(N:Fr->St->Prop):Prop:= ∃j s',vK Q f ops fr s=some (j,s')/\N j s'
theorem aN{s:St}{N:Fr->St->Prop}:WP Q f [] fr s N=N fr s:=by
 apply propext;constructor;rintro⟨j,s',h,q⟩
 grind [vK]
 exact fun h=>⟨fr,s,rfl,h⟩
theorem Ho{s:St}{N:Fr->St->Prop}:WP Q f (o::l) fr s N=(∃j s1,sr Q f o fr s=some (j,s1)/\WP Q f l j s1 N):=by
 apply propext;constructor;rintro⟨q,s',h,u⟩;simp only[vK,ak] at h;obtain⟨⟨j,s1⟩,A,w⟩:=h;exact⟨j,s1,A,q,s',w,u⟩;rintro⟨j,s1,A,q,s',w,u⟩;refine⟨q,s',?_,u⟩;simp only[vK,A,au,w]
theorem RV{d:Tmp}{g:SG}{e:ax}{sz:Nat}{lc:Loc}{s:St}{N:Fr->St->Prop}(q:fU e g=true):
 WP Q f (⟨some d,op,g⟩::l) ⟨e,sz,lc⟩ s N=vr (cM Q f ⟨some d,op,g⟩ [] ⟨e,sz,lc⟩ s) fun v j s'=>d<sz/\WP Q f l ⟨e.set d (some v),sz,j⟩ s' N:=by
 rw[Ho];simp only[sr,q,cT];cases h:cM Q f ⟨some d,op,g⟩ [] ⟨e,sz,lc⟩ s with
 |none=>simp[vr]
 |some x=>
  grind [vr,di,bm,cP,fW]
theorem RX{g:SG}{e:ax}{sz:Nat}{lc:Loc}{s:St}{N:Fr->St->Prop}(q:fU e g=true):
 WP Q f (⟨none,op,g⟩::l) ⟨e,sz,lc⟩ s N=vr (cM Q f ⟨none,op,g⟩ [] ⟨e,sz,lc⟩ s) fun _ j s'=>WP Q f l ⟨e,sz,j⟩ s' N:=by
 rw[Ho];simp only[sr,q,cT];cases h:cM Q f ⟨none,op,g⟩ [] ⟨e,sz,lc⟩ s with
 |none=>simp[vr]
 |some x=>
  grind [vr,di]
theorem RY{d:Tmp}{g:SG}{e:ax}{sz:Nat}{lc:Loc}{s:St}{N:Fr->St->Prop}(j:fU e g=false):
 WP Q f (⟨some d,op,g⟩::l) ⟨e,sz,lc⟩ s N=(d<sz/\WP Q f l ⟨e.set d (some gM),sz,lc⟩ s N):=by
 rw[Ho];simp only[sr,j,cF,di]
 grind [bm,cP,fW]
theorem acn{g:SG}{e:ax}{sz:Nat}{lc:Loc}{s:St}{N:Fr->St->Prop}(j:fU e g=false):
 WP Q f (⟨none,op,g⟩::l) ⟨e,sz,lc⟩ s N=WP Q f l ⟨e,sz,lc⟩ s N:=by
 grind [Ho,sr,di]
theorem bD(a b:Nat):aQ a b=(a==b):=by
 grind [jP,Nat.ne_of_beq_eq_false]
theorem jC(a b:Nat):bm a b=decide (a<b):=by
 grind [bm,fW,cP]
def gG(a b:Nat):bw a b=decide (a<=b):=tN a b
theorem oz(k:IntKind)(n:Nat):dS (.int k (n:Int))=some n:=rfl
def kS:aa->Bool->Bool
 | .bool c,b=>c==b
 |_,_=>false
theorem qo(e:ax)(t:Tmp)(b:Bool):fU e (.when t b)=kS (ac e t) b:=by
 show(match ac e t with| .bool c=>c==b|_=>false)=kS (ac e t) b;generalize ac e t=x;cases x<;>rfl
def lg:kS (.bool true) true=true:=rfl
def oL:kS (.bool true) false=false:=rfl
def nX:kS (.bool false) true=false:=rfl
def ka:kS (.bool false) false=true:=rfl
def GU(b:Bool):kS gM b=false:=rfl
def PC:aa->Option aa->Option aa->Option aa
 | .bool true,a,_=>a
 | .bool false,_,b=>b
 |_,_,_=>none
def em(e:ax)(c a b:Operand):Bb e c a b=(ev e c).bind fun c=>PC c (ev e a) (ev e b):=by
 unfold Bb;cases ev e c with
 |none=>rfl
 |some v=>
  cases v<;>first|rfl|skip
  rename_i c;cases c<;>rfl
def iq(a b:Option aa):PC (.bool true) a b=a:=rfl
def gJ(a b:Option aa):PC (.bool false) a b=b:=rfl
def bq(e:ax)(x:Operand):evc e x=(ev e x).bind fun v=>bif v.ge then some v else none:=rfl
def aM(v:aa)(l:Loc)(s:St):fT (some v) l s=some (v,l,s):=rfl
def eG(v:aa)(l:Loc)(s:St):gW (some (v,s)) l=some (v,l,s):=rfl
def PT(l:Loc)(s:St):nW (some s) l=some (gM,l,s):=rfl
def fG(P:Program)(t:TypeId)(a b:Int):eB P .lss t (.int .i64 a) (.int .i64 b)=some (.bool (bc a b)):=rfl
def Aj(P:Program)(t:TypeId)(a b:Int):eB P .leq t (.int .i64 a) (.int .i64 b)=some (.bool (cr a b)):=rfl
def nG(P:Program)(t:TypeId)(a b:Int):eB P .gtr t (.int .i64 a) (.int .i64 b)=some (.bool (bc b a)):=rfl
def kE(P:Program)(t:TypeId)(a b:Int):eB P .geq t (.int .i64 a) (.int .i64 b)=some (.bool (cr b a)):=rfl
def nF(P:Program)(t:TypeId)(a b:Int):eB P .eql t (.int .i64 a) (.int .i64 b)=some (.bool (an a b)):=rfl
def BT(P:Program)(t:TypeId)(a b:Int):eB P .neq t (.int .i64 a) (.int .i64 b)=some (.bool (!an a b)):=rfl
def mP(P:Program)(t:TypeId)(a b:Int):eB P .add t (.int .i64 a) (.int .i64 b)=some (.int .i64 (IntKind.i64.wrap (a+b))):=rfl
def SM(P:Program)(t:TypeId)(a b:Int):eB P .sub t (.int .i64 a) (.int .i64 b)=some (.int .i64 (IntKind.i64.wrap (a-b))):=rfl
def SQ(P:Program)(t:TypeId)(a b:Int):eB P .eql t (.int .u8 a) (.int .u8 b)=some (.bool (an a b)):=rfl
def An(P:Program)(t:TypeId)(a b:Int):eB P .neq t (.int .u8 a) (.int .u8 b)=some (.bool (!an a b)):=rfl
def SR(P:Program)(t:TypeId)(a b:Int):eB P .leq t (.int .u8 a) (.int .u8 b)=some (.bool (cr a b)):=rfl
def oe(P:Program)(t:TypeId)(a b:List UInt8):eB P .eql t (.str a) (.str b)=some (.bool (a==b)):=rfl
def Am(P:Program)(t:TypeId)(a b:List UInt8):eB P .neq t (.str a) (.str b)=some (.bool (!(a==b))):=rfl
def ye(P:Program)(t:TypeId)(a b:List UInt8):eB P .leq t (.str a) (.str b)=some (.bool (leBytes a b)):=rfl
def HB(P:Program)(t:TypeId)(a b:List UInt8):eB P .lss t (.str a) (.str b)=some (.bool (Op.bytesLess a b)):=rfl
def mE(b:Bool):Bq .not (.bool b)=some (.bool !b):=rfl
def eM(P:Program)(mk:aK)(t:TypeId)(j:Bool)(x:aa)(s:St):jH P mk .len [t] j [x] s=(jo P mk t x s).bind fun v=>some (v,s):=rfl
def SN(P:Program)(mk:aK)(t t2:TypeId)(j:Bool)(x y:aa)(s:St):jH P mk .append [t,t2] j [x,y] s=bif rN P t2 then fF P mk t x y j s else none:=rfl
def dA(h:Tmp->Nat)(t:Tmp):pg h (some t)=h t:=rfl
def lM(b:Bool):(aa.bool b).ge=true:=rfl
def cm(k:IntKind)(n:Int):(aa.int k n).ge=true:=rfl
def eU(b:List UInt8):(aa.str b).ge=true:=rfl
def mq(b:List aa):(aa.agg b).ge=true:=rfl
def Mf(n:Nat)(b:List aa)(r:oW):(aa.list n b r).ge=true:=rfl
def Ts(b:List aa):(aa.ro b).ge=true:=rfl
def Mg(n o:Nat):(aa.ptr n o).ge=true:=rfl
def B3(n:Nat):(aa.map n).ge=true:=rfl
def Tr:(aa.oZ).ge=true:=rfl
def Tq:(aa.nilm).ge=true:=rfl
def Tp:(aa.nilf).ge=true:=rfl
def Aq(f:Fn)(a b:List aa):(aa.func f a b).ge=true:=rfl
theorem gD(cs:List aa):(aa.agg cs).cells=cs:=rfl
def td(s:List UInt8):(aa.str s).cells=[.str s]:=rfl
def HG(k:IntKind)(n:Int):(aa.int k n).cells=[.int k n]:=rfl
def S9(b:Bool):(aa.bool b).cells=[.bool b]:=rfl
def L8(n:Nat)(xs:List aa)(r:oW):(aa.list n xs r).cells=[.list n xs r]:=rfl
def zH(P:Program)(mk:aK)(t:TypeId)(l g off:Nat)(v:aa)(lc:Loc)(s:St):ui P mk t (.rd l g off) v lc s=(dI P t).bind fun n=>bif aQ v.cells.length n&&bm 0 n then(lc.get l g).bind fun cs=>(fL cs off v.cells).bind fun j=>some (lc.set l g j,s) else none:=rfl
def ay{α:Type}(n:Nat)(enc:α->aa)(v:aa)(l:List α):Prop:=(v= .oZ/\l=[])\/ ∃r,v= .list n (l.map enc) r
def ay.ge{n:Nat}{enc:α->aa}{l:List α}(h:ay n enc v l):v.ge=true:=by
 rcases h with⟨rfl,_⟩|⟨r,rfl⟩<;>rfl
theorem ay.scal{n:Nat}{enc:α->aa}{l:List α}(h:ay n enc v l):v.cells=[v]:=by
 rcases h with⟨rfl,_⟩|⟨r,rfl⟩<;>rfl
def ay.cs{n:Nat}{enc:α->aa}{l:List α}(h:ay n enc v l):v.ge=true/\v.cells=[v]:=⟨h.ge,h.scal⟩
def Yh{α:Type}(enc:α->aa): ∀(l:List α) (i:Nat) (a:α),l[i]? =some a->nN (l.map enc) i=enc a
 | [],i,a,h=>by simp at h
 |x::l,0,a,h=>by simp at h;subst h;rfl
 |x::l,i+1,a,h=>Yh enc l i a (by simpa using h)
def ay.len{n:Nat}{enc:α->aa}{l:List α}(h:ay n enc v l){P:Program}{t:TypeId}(h1: ∀mk s,jo P mk t .oZ s=some (.int .i64 (0:Nat)))(j: ∀mk n xs r s,jo P mk t (.list n xs r) s=some (.int .i64 (xs:List aa).length))(mk:aK)(s:St):jo P mk t v s=some (.int .i64 (l.length:Nat)):=by
 rcases h with⟨rfl,rfl⟩|⟨r,rfl⟩
 rw[h1];rfl;rw[j];simp
theorem ay.at{n:Nat}{enc:α->aa}{l:List α}(h:ay n enc v l){P:Program}{t:TypeId}(q: ∀lc m xs r i,ja P lc t (.list m xs r) i=(dS i).bind fun i=>bif aQ m n&&bm i xs.length then some (.ro (nN xs i).cells) else none){i:Nat}{a:α}(hi:l[i]? =some a)(lc:Loc)(k:IntKind):
 ja P lc t v (.int k (i:Int))=some (.ro (enc a).cells):=by
 have j:i<l.length:=by
  rcases Nat.lt_or_ge i l.length with h|h
  exact h
  grind
 rcases h with⟨rfl,rfl⟩|⟨r,rfl⟩
 simp at hi;rw[q];simp only[oz,au,Yh enc l i a hi,ce];have:bm i l.length=true:=cP j;simp[this]
theorem Pd(e:ax)(t:Nat)(v:aa):ac (e.set t (some v)) t=v:=by simp[ac,Pr]
theorem JO(e:ax)(t u:Nat)(v:aa)(h:(u==t)=false):ac (e.set t (some v)) u=ac e u:=by
 grind [ac,aC.get_set]
theorem aj(e:ax)(t u:Nat)(v:aa):ac (e.set t (some v)) u=bif u==t then v else ac e u:=by
 grind [Pd,JO]
theorem gen_set(l:Loc)(t h u:Nat)(c:List aa):(l.set t h c).gen u=bif aQ t u then h else l.gen u:=by
 induction l with
 |nil=>simp only[Loc.set,Loc.gen]
 |cons x l j=>
  grind [Loc.set,jP,Loc.gen]
def gw(t:Nat):Loc.gen [] t=0:=rfl
theorem agu(l:Loc)(t h:Nat)(c:List aa):(l.set t h c).gen t=h:=by simp[gen_set]
theorem agv(l:Loc)(t h u:Nat)(c:List aa)(e:(u==t)=false):(l.set t h c).gen u=l.gen u:=by
 grind [gen_set,jP]
theorem Xu(l:Loc)(t h u g:Nat)(c:List aa):(l.set t h c).get u g=bif aQ t u then(bif aQ h g then some c else none) else l.get u g:=by
 induction l with
 |nil=>simp only[Loc.set,Loc.get]
 |cons x l j=>
  grind [Loc.set,jP,Loc.get]
theorem ame(l:Loc)(t h u g:Nat)(c:List aa)(e:(u==t)=false):(l.set t h c).get u g=l.get u g:=by
 grind [Xu,jP]
theorem yV(l:Loc)(t h j:Nat)(c c':List aa):(l.set t h c).set t j c'=l.set t j c':=by
 induction l with
 |nil=>simp[Loc.set]
 |cons x l q=>
  grind [Loc.set]
theorem dj(l:Loc)(t h u:Nat)(c:List aa):(l.set t h c).gen u=bif u==t then h else l.gen u:=by
 grind [agu,agv]
def cY(l:Loc)(t h u g:Nat)(c:List aa):(l.set t h c).get u g=bif u==t then(bif g==h then some c else none) else l.get u g:=by
 cases e:u==t with
 |true=>
  have:u=t:=by simpa using e
  subst this;rw[Xu];simp only[cT];cases e:g==h with
  |true=>simp_all
  |false=>
   have j:g≠h:=by simpa using e
   have:aQ h g=false:=by
    cases e':aQ h g with
    |false=>rfl
    |true=>simp_all
   simp[this]
 |false=>exact ame l t h u g c e
def KH(Q:aH)(f:FuncId)(d:Tmp)(e:ax)(sz:Nat)(l:List aw)(N:Fr->St->Prop)(x:Option (aa×Loc×St)):Prop:=vr x fun v j s'=>d<sz/\WP Q f l ⟨e.set d (some v),sz,j⟩ s' N
def KI(Q:aH)(f:FuncId)(e:ax)(sz:Nat)(l:List aw)(N:Fr->St->Prop)(x:Option (aa×Loc×St)):Prop:=vr x fun _ j s'=>WP Q f l ⟨e,sz,j⟩ s' N
def QL(Q:aH)(f:FuncId)(o:aw)(d:Tmp)(e:ax)(sz:Nat)(lc:Loc)(s:St)(l:List aw)(N:Fr->St->Prop):Bool->Prop
 |true=>KH Q f d e sz l N (cM Q f o [] ⟨e,sz,lc⟩ s)
 |false=>d<sz/\WP Q f l ⟨e.set d (some gM),sz,lc⟩ s N
def QM(Q:aH)(f:FuncId)(o:aw)(e:ax)(sz:Nat)(lc:Loc)(s:St)(l:List aw)(N:Fr->St->Prop):Bool->Prop
 |true=>KI Q f e sz l N (cM Q f o [] ⟨e,sz,lc⟩ s)
 |false=>WP Q f l ⟨e,sz,lc⟩ s N
def aP{d:Tmp}{e:ax}{sz:Nat}{N:Fr->St->Prop}{lc:Loc}{s:St}:KH Q f d e sz l N (some (v,lc,s))=(d<sz/\WP Q f l ⟨e.set d (some v),sz,lc⟩ s N):=rfl
def ug{e:ax}{sz:Nat}{N:Fr->St->Prop}{lc:Loc}{s:St}:KI Q f e sz l N (some (v,lc,s))=WP Q f l ⟨e,sz,lc⟩ s N:=rfl
def iu{d:Tmp}{e:ax}{sz:Nat}{lc:Loc}{s:St}{N:Fr->St->Prop}:QL Q f o d e sz lc s l N true=KH Q f d e sz l N (cM Q f o [] ⟨e,sz,lc⟩ s):=rfl
def jF{d:Tmp}{e:ax}{sz:Nat}{lc:Loc}{s:St}{N:Fr->St->Prop}:QL Q f o d e sz lc s l N false=(d<sz/\WP Q f l ⟨e.set d (some gM),sz,lc⟩ s N):=rfl
def abq{e:ax}{sz:Nat}{lc:Loc}{s:St}{N:Fr->St->Prop}:QM Q f o e sz lc s l N true=KI Q f e sz l N (cM Q f o [] ⟨e,sz,lc⟩ s):=rfl
def abp{e:ax}{sz:Nat}{lc:Loc}{s:St}{N:Fr->St->Prop}:QM Q f o e sz lc s l N false=WP Q f l ⟨e,sz,lc⟩ s N:=rfl
def aO{d:Tmp}{e:ax}{sz:Nat}{lc:Loc}{s:St}{N:Fr->St->Prop}:
 WP Q f (⟨some d,op,.aw⟩::l) ⟨e,sz,lc⟩ s N=KH Q f d e sz l N (cM Q f ⟨some d,op,.aw⟩ [] ⟨e,sz,lc⟩ s):=RV rfl
def sS{e:ax}{sz:Nat}{lc:Loc}{s:St}{N:Fr->St->Prop}:
 WP Q f (⟨none,op,.aw⟩::l) ⟨e,sz,lc⟩ s N=KI Q f e sz l N (cM Q f ⟨none,op,.aw⟩ [] ⟨e,sz,lc⟩ s):=RX rfl
def RU{d:Tmp}{e:ax}{sz:Nat}{lc:Loc}{s:St}{N:Fr->St->Prop}:
 WP Q f (⟨some d,op,.never⟩::l) ⟨e,sz,lc⟩ s N=(d<sz/\WP Q f l ⟨e.set d (some gM),sz,lc⟩ s N):=RY rfl
def eW{d:Tmp}{t:Tmp}{b:Bool}{e:ax}{sz:Nat}{lc:Loc}{s:St}{N:Fr->St->Prop}:
 WP Q f (⟨some d,op,.when t b⟩::l) ⟨e,sz,lc⟩ s N=QL Q f ⟨some d,op,.when t b⟩ d e sz lc s l N (kS (ac e t) b):=by
 cases h:kS (ac e t) b with
 |true=>exact RV (by rw[qo,h])
 |false=>exact RY (by rw[qo,h])
def RZ{t:Tmp}{b:Bool}{e:ax}{sz:Nat}{lc:Loc}{s:St}{N:Fr->St->Prop}:
 WP Q f (⟨none,op,.when t b⟩::l) ⟨e,sz,lc⟩ s N=QM Q f ⟨none,op,.when t b⟩ e sz lc s l N (kS (ac e t) b):=by
 cases h:kS (ac e t) b with
 |true=>exact RX (by rw[qo,h])
 |false=>exact acn (by rw[qo,h])
def W.reg{s:St}{K:Ex->Fr->St->Prop}(h:WP Q f ops fr s fun fr s=>K .normal fr s):W Q f (.region ops) fr s K:=
 let⟨_,_,h1,h2⟩:=h;W.region (WL.run h1 h2)
def W.sreg{s:St}{K:Ex->Fr->St->Prop}(h:WP Q f ops fr s fun fr s=>W Q f c fr s K):W Q f (.seq (.region ops) c) fr s K:=cU (W.reg h)
def dq(K:Ex->Fr->St->Prop)(N:Fr->St->Prop):Ex.next K N .normal=N:=rfl
def FQ(K:Ex->Fr->St->Prop)(N:Fr->St->Prop):Ex.next K N .ret=K .ret:=rfl
def FP(K:Ex->Fr->St->Prop)(N:Fr->St->Prop)(i:Nat):Ex.next K N (.exit i)=K (.exit i):=rfl
def nH(i:Nat):Ex.block i .normal= .normal:=rfl
def Eg(i:Nat):Ex.block i .ret= .ret:=rfl
def L0(i j:Nat):Ex.block i (.exit j)=bif aQ j i then .normal else .exit j:=rfl
section
variable{e:ax}{sz:Nat}{lc:Loc}{s:St}{d:Option Tmp}{g:SG}{mk:aK}
def bJ(x:Operand):cM Q f ⟨d,.move x,g⟩ mk ⟨e,sz,lc⟩ s=fT (ev e x) lc s:=rfl
def bW(x:Operand):cM Q f ⟨d,.assign x,g⟩ mk ⟨e,sz,lc⟩ s=fT (ev e x) lc s:=rfl
def ek(c a b:Operand):cM Q f ⟨d,.pick c a b,g⟩ mk ⟨e,sz,lc⟩ s=fT (Bb e c a b) lc s:=rfl
def vB(t:TypeId):cM Q f ⟨d,.alloc t,g⟩ mk ⟨e,sz,lc⟩ s=(eV Q.P t).bind fun z=>rz (pg (Q.hint f) d) d z.cells lc s:=rfl
def Ba(t:TypeId)(x:Operand):cM Q f ⟨d,.box t x,g⟩ mk ⟨e,sz,lc⟩ s=(evc e x).bind fun a=>rz (pg (Q.hint f) d) d a.cells lc s:=rfl
def Df(t:TypeId)(ps:Array (Nat×Operand)):cM Q f ⟨d,.build t ps,g⟩ mk ⟨e,sz,lc⟩ s=fT (ta Q.P t ps.toList e) lc s:=rfl
def Pu(t:TypeId)(n:Nat)(ps:Array (Nat×Operand)):cM Q f ⟨d,.buildSlice t n ps,g⟩ mk ⟨e,sz,lc⟩ s=gW (bj Q.P t n ps.toList (aQ (pg (Q.hint f) d) 2) e s) lc:=rfl
def aAq(t:TypeId)(a:Operand):cM Q f ⟨d,.load t a,g⟩ mk ⟨e,sz,lc⟩ s=(ev e a).bind fun a=>fT (mr Q.P mk t a lc s) lc s:=rfl
def tX(t:TypeId)(a x:Operand):cM Q f ⟨d,.store t a x,g⟩ mk ⟨e,sz,lc⟩ s=(ev e a).bind fun a=>(evc e x).bind fun x=>(ui Q.P mk t a x lc s).bind fun r=>some (gM,r.1,r.2):=rfl
def cj(o:BinOp)(t u:TypeId)(x y:Operand):cM Q f ⟨d,.binOp o t x y u,g⟩ mk ⟨e,sz,lc⟩ s=(evc e x).bind fun x=>(evc e y).bind fun y=>fT (eB Q.P o t x y) lc s:=rfl
def mA(o:UnOp)(t:TypeId)(x:Operand):cM Q f ⟨d,.unOp o t x,g⟩ mk ⟨e,sz,lc⟩ s=(evc e x).bind fun a=>fT (Bq o a) lc s:=rfl
def Zb(t:TypeId)(x:Operand)(i:Nat):cM Q f ⟨d,.field t x i,g⟩ mk ⟨e,sz,lc⟩ s=(evc e x).bind fun a=>fT (yD Q.P t a i) lc s:=rfl
def eC(t:TypeId)(x:Operand)(i:Nat):cM Q f ⟨d,.fieldAddr t x i,g⟩ mk ⟨e,sz,lc⟩ s=(ev e x).bind fun a=>fT (tl Q.P lc t a i) lc s:=rfl
def Ga(t:TypeId)(x i:Operand):cM Q f ⟨d,.index t x i,g⟩ mk ⟨e,sz,lc⟩ s=(evc e x).bind fun x=>(ev e i).bind fun i=>fT (AM Q.P t x i) lc s:=rfl
def nf(t:TypeId)(x i:Operand):cM Q f ⟨d,.indexAddr t x i,g⟩ mk ⟨e,sz,lc⟩ s=(ev e x).bind fun x=>(ev e i).bind fun i=>fT (ja Q.P lc t x i) lc s:=rfl
def PA(t:TypeId)(x:Operand)(lo hi j:Option Operand):cM Q f ⟨d,.slice t x lo hi j,g⟩ mk ⟨e,sz,lc⟩ s=(evc e x).bind fun a=>fT (jE Q.P mk t a lo hi j e s) lc s:=rfl
def J7(t:TypeId)(x i:Operand)(j:Bool):cM Q f ⟨d,.lookup t x i j,g⟩ mk ⟨e,sz,lc⟩ s=(evc e x).bind fun x=>(evc e i).bind fun i=>fT (ou Q.P mk t x i j s) lc s:=rfl
def J8(t:TypeId)(m k x:Operand):cM Q f ⟨d,.mapUpdate t m k x,g⟩ mk ⟨e,sz,lc⟩ s=(evc e m).bind fun m=>(evc e k).bind fun k=>(evc e x).bind fun x=>nW (qZ Q.P mk t m k x s) lc:=rfl
def Px(t:TypeId)(r:Option Operand):cM Q f ⟨d,.makeMap t r,g⟩ mk ⟨e,sz,lc⟩ s=gW (m7 Q.P t e r s) lc:=rfl
def Pw(fn:Fn)(a b:Array Operand):cM Q f ⟨d,.makeFunc fn a b,g⟩ mk ⟨e,sz,lc⟩ s=fT (rR e fn a b) lc s:=rfl
def Zc(x:Operand):cM Q f ⟨d,.nilCheck x,g⟩ mk ⟨e,sz,lc⟩ s=(ev e x).bind fun a=>fT (y8 lc a) lc s:=rfl
def Za(x:Operand)(i:Nat):cM Q f ⟨d,.extract x i,g⟩ mk ⟨e,sz,lc⟩ s=(ev e x).bind fun a=>fT (fh i a) lc s:=rfl
def aBZ(a b:TypeId)(x:Operand):cM Q f ⟨d,.convert a b x,g⟩ mk ⟨e,sz,lc⟩ s=(evc e x).bind fun v=>fT (uW Q.P a b v) lc s:=rfl
def eN(b:Builtin)(as:Array Operand)(ts:Array TypeId):cM Q f ⟨d,.call ⟨.builtin b,as,ts⟩,g⟩ mk ⟨e,sz,lc⟩ s=
 (evcs e as.toList).bind fun args=>gW (jH Q.P mk b ts.toList (aQ (pg (Q.hint f) d) 2) args s) lc:=rfl
def iX(x:Operand)(as:Array Operand)(ts:Array TypeId):cM Q f ⟨d,.call ⟨.value x,as,ts⟩,g⟩ mk ⟨e,sz,lc⟩ s=
 (callee e ⟨.value x,as,ts⟩).bind fun g=>(Q.spec g.1).bind fun sp=>(sp g.2).bind fun v=>some (v,lc,s):=rfl
def iM(n:FuncId)(as:Array Operand)(ts:Array TypeId):callee e ⟨.value (.func n),as,ts⟩=(evcs e as.toList).bind fun args=>some (n,args):=by
 simp only[callee,ev,au,oP,kC]
end
def aA(e:ax)(t:Nat):ev e (.tmp t)=some (ac e t):=rfl
def bC(e:ax)(v:Value):ev e (.const v)=ofValue v:=rfl
def MF(e:ax)(n:FuncId):ev e (.func n)=some (.func (.func n) [] []):=rfl
def da(e:ax):evcs e []=some []:=rfl
def azU(e:ax)(x:Operand)(l:List Operand):evcs e (x::l)=(evc e x).bind fun v=>(evcs e l).bind fun r=>some (v::r):=rfl
def dl(b:Bool):ofValue (.bool b)=some (.bool b):=rfl
def cC(k:IntKind)(n:Int):ofValue (.int k n)=some (.int k n):=rfl
def my(s:Array UInt8):ofValue (.string ⟨s⟩)=some (.str s.toList):=rfl
def rB(t:Tmp)(cs:List aa)(lc:Loc)(s:St):rz 1 (some t) cs lc s=some (.rd t (lc.gen t+1) 0,lc.set t (lc.gen t+1) cs,s):=rfl
def Eh(d:Option Tmp)(cs:List aa)(lc:Loc)(s:St):rz 0 d cs lc s=some (.ptr s.aL 0,lc,s.new (.cells cs)):=rfl
def gS(P:Program)(mk:aK)(t:TypeId)(l g off:Nat)(lc:Loc)(s:St):mr P mk t (.rd l g off) lc s=(lc.get l g).bind fun cs=>js P t cs off:=rfl
def mZ(P:Program)(mk:aK)(t:TypeId)(cs:List aa)(lc:Loc)(s:St):mr P mk t (.ro cs) lc s=js P t cs 0:=rfl
def fB(a b:Nat):bc (a:Int) (b:Int)=decide (a<b):=by simp[bc]
def EO(a b:Nat):cr (a:Int) (b:Int)=decide (a<=b):=by simp[cr]
theorem Cu(a b:Nat):an (a:Int) (b:Int)=(a==b):=by
 grind [an]
theorem iC{z:Int}(h1: -9223372036854775808<=z)(j:z<9223372036854775808):IntKind.i64.wrap z=z:=by
 rw[IntKind.wrap_i64];omega
def St.top(s:St):St:=⟨s.heap,s.aL,s.aL,s.ci⟩
def WQ(Q:aH)(f:FuncId)(s:St):List aw->Fr->(Fr->Prop)->Prop
 | [],fr,N=>N fr
 |o::l,fr,N=>(fU fr.env o.g=true/\ ∃v lc j,cM Q f o [] fr s=some (v,lc,s)/\isStore o.op=false/\di fr o.dst v lc=some j/\WQ Q f s l j N)\/
   (fU fr.env o.g=false/\ ∃j,di fr o.dst gM fr.loc=some j/\WQ Q f s l j N)
def calm(rs:List fZ):Prop:= ∀r∈rs,r.c0=r.c1/\r.loud=false
def XL(h:calm rs)(b:Nat):jp b rs []=[]:=by
 induction rs with
 |nil=>rfl
 |cons r rs j=>
  have:=h r (by simp);simp only[jp,this.1,bD,bS,Bool.or_true,cT];exact j fun r q=>h r (by simp[q])
def UB(h:calm rs)(b:Nat)(ft:dt):pS b ft false rs=true:=by
 simp only[pS,f8];intro r j;simp[(h r j).2]
def WQ.draw{s:St}(w:s.gt<=s.aL): ∀ {l:List aw} {bs:List Nat} {rs:List fZ} {i:Nat} {fr:Fr} {N:Fr->Prop},calm rs->WQ Q f s.top l fr N-> ∃j,zz Q f bs rs i l fr s=some (j,s)/\N j
 | [],bs,rs,i,fr,N,_,h=>⟨fr,rfl,h⟩
 |o::l,bs,rs,i,fr,N,hc,h=>by
  simp only[zz];rcases h with⟨q,v,lc,j,D,G,B,A⟩|⟨q,j,B,A⟩
  rw[q,XL hc];have D:cM Q f o [] fr ⟨s.heap,s.aL,s.aL,s.ci⟩=some (v,lc,⟨s.heap,s.aL,s.aL,s.ci⟩):=D;simp only[cT,D,au,G,kh];have F:bm s.aL s.aL=false:=by rw[jC];simp
  have E:s.rX ⟨s.heap,s.aL,s.aL,s.ci⟩=s:=by
   have:bw s.gt s.aL=true:=cP w;simp[St.rX,this]
  rw[F,UB hc,bD,bS];simp only[je,cT,B,au,E];exact WQ.draw w (fun r u=>by
   rcases fc.1 u with rfl|u
   exact⟨rfl,rfl⟩;exact hc r u) A
  rw[q];simp only[cF,B,au];exact WQ.draw w hc A
def W.drawQ{s:St}{K:Ex->Fr->St->Prop}(u:s.gt<=s.aL)(h:WQ Q f s.top ops fr fun j=>K .normal j s):W Q f (.draw ops bs) fr s K:=
 let⟨_,h1,h2⟩:=WQ.draw u (fun _ q=>by cases q) h;W.draw h1 h2
def W.sdrawQ{s:St}{K:Ex->Fr->St->Prop}(q:s.gt<=s.aL)(h:WQ Q f s.top ops fr fun j=>W Q f c j s K):W Q f (.seq (.draw ops bs) c) fr s K:=cU (W.drawQ q h)
def KJ(Q:aH)(f:FuncId)(s:St)(d:Tmp)(j:Bool)(e:ax)(sz:Nat)(l:List aw)(N:Fr->Prop)(x:Option (aa×Loc×St)):Prop:= ∃v lc,x=some (v,lc,s)/\j=false/\d<sz/\WQ Q f s l ⟨e.set d (some v),sz,lc⟩ N
theorem uh{s:St}{d:Tmp}{j:Bool}{e:ax}{sz:Nat}{lc:Loc}:KJ Q f s d j e sz l N (some (v,lc,s))=(j=false/\d<sz/\WQ Q f s l ⟨e.set d (some v),sz,lc⟩ N):=by
 apply propext;constructor;rintro⟨B,A,h,w,u,q⟩
 grind
 rintro⟨w,u,q⟩;exact⟨v,lc,rfl,w,u,q⟩
def azH(Q:aH)(f:FuncId)(s:St)(o:aw)(d:Tmp)(e:ax)(sz:Nat)(lc:Loc)(l:List aw)(N:Fr->Prop):Bool->Prop
 |true=>KJ Q f s d (isStore o.op) e sz l N (cM Q f o [] ⟨e,sz,lc⟩ s)
 |false=>d<sz/\WQ Q f s l ⟨e.set d (some gM),sz,lc⟩ N
def Bt{s:St}{d:Tmp}{e:ax}{sz:Nat}{lc:Loc}:azH Q f s o d e sz lc l N true=KJ Q f s d (isStore o.op) e sz l N (cM Q f o [] ⟨e,sz,lc⟩ s):=rfl
def DI{s:St}{d:Tmp}{e:ax}{sz:Nat}{lc:Loc}:azH Q f s o d e sz lc l N false=(d<sz/\WQ Q f s l ⟨e.set d (some gM),sz,lc⟩ N):=rfl
theorem gK{e:ax}{sz:Nat}{lc:Loc}{d:Tmp}{lc':Loc}{j:Fr}:di ⟨e,sz,lc⟩ (some d) v lc'=some j↔d<sz/\j=⟨e.set d (some v),sz,lc'⟩:=by
 grind [di,jC]
def sU{s:St}:WQ Q f s [] fr N=N fr:=rfl
def azN{s:St}{d:Tmp}{e:ax}{sz:Nat}{lc:Loc}:
 WQ Q f s (⟨some d,op,.aw⟩::l) ⟨e,sz,lc⟩ N=KJ Q f s d (isStore op) e sz l N (cM Q f ⟨some d,op,.aw⟩ [] ⟨e,sz,lc⟩ s):=by
 apply propext;constructor;rintro(⟨_,v,j,E,A,w,D,u⟩|⟨B,_⟩);obtain⟨q,rfl⟩:=gK.1 D;exact⟨v,j,A,w,q,u⟩;cases B;rintro⟨v,j,A,w,q,u⟩;exact .inl ⟨rfl,v,j,_,A,w,gK.2 ⟨q,rfl⟩,u⟩
theorem xZ{s:St}{d:Tmp}{t:Tmp}{b:Bool}{e:ax}{sz:Nat}{lc:Loc}:
 WQ Q f s (⟨some d,op,.when t b⟩::l) ⟨e,sz,lc⟩ N=azH Q f s ⟨some d,op,.when t b⟩ d e sz lc l N (kS (ac e t) b):=by
 apply propext;constructor;rintro(⟨j,v,q,E,D,B,A,w⟩|⟨j,E,A,w⟩);have j:fU e (.when t b)=true:=j;rw[qo] at j;obtain⟨u,rfl⟩:=gK.1 A;rw[j];exact⟨v,q,D,B,u,w⟩;have j:fU e (.when t b)=false:=j;rw[qo] at j;obtain⟨u,rfl⟩:=gK.1 A;rw[j];exact⟨u,w⟩;intro h;cases j:kS (ac e t) b with
 |true=>
  rw[j] at h;obtain⟨v,q,D,B,u,w⟩:=h;exact .inl ⟨by grind [qo],v,q,_,D,B,gK.2 ⟨u,rfl⟩,w⟩
 |false=>
  rw[j] at h;exact .inr ⟨by grind [qo],_,gK.2 ⟨h.1,rfl⟩,h.2⟩
def aq.of2{n:Nat}{rs:List ResultVar}{s s':St}(B:Q.P.funcs[f]? =some fn)(j:fn.body.map eD=some sc)(A:fn.ntmps=n)(w:fn.results.toList=rs)(q:Q.spec f=none)(h:W Q f sc (aaA n args) s fun x u s1=>s1=s'/\(x= .normal\/x= .ret)/\ ∃vs,jt Q [] u s1 rs=some vs/\nT vs=v)(E:Q.specH f=none:=by rfl)(D:Q.specW f=none:=by rfl):aq Q f args s v s':=by
 cases hb:fn.body with
 |none=>rw[hb] at j;cases j
 |some c=>
  rw[hb] at j;simp only[kn,aJ] at j;subst A;subst w;exact aq.of B hb q j h E D
def dZ{s:St}{t:Tmp}(h:ac fr.env t=v)(j:v.ge=true): ∃vs,jt Q [] fr s [.tmp t]=some vs/\nT vs=v:=by
 refine⟨[v],?_,rfl⟩;simp only[jt,Kk,evc,ev,h,au,j,cT]
theorem XK{b:Nat}(h: ∀r∈rs,b.testBit r.i=true\/r.c0=r.c1):jp b rs []=[]:=by
 induction rs with
 |nil=>rfl
 |cons r rs j=>
  grind [O7,jp]
theorem afO{b:Nat}{ft:dt}{loud:Bool}(h: ∀r∈rs,b.testBit r.i=true):pS b ft loud rs=true:=by
 grind [pS]
def kZ{s:St}(j:s.gt<=s.aL):s.rX s.top=s:=by
 simp_all [cP,St.rX,St.top]
theorem alA{s:St}(j:s.gt<=s.aL)(o:aR):s.rX (s.top.new o)=s.new o:=by
 grind [cP,St.rX,St.top,St.new]
def W.drawR{fr1:Fr}{s s1:St}{K:Ex->Fr->St->Prop}(h:kX Q f bs [] 0 ops fr s fr1 s1)(hk:K .normal fr1 s1):W Q f (.draw ops bs) fr s K:=⟨_,_,_,.draw h,hk⟩
theorem WQ.thenD{s:St}(F:s.gt<=s.aL){l2:List aw}{N:Fr->St->Prop}: ∀ {l1:List aw} {bs:List Nat} {rs:List fZ} {i:Nat} {fr:Fr},calm rs->(∀r∈rs,r.i<i)->
 WQ Q f s.top l1 fr (fun I=> ∀q,calm q->(∀r∈q,r.i<i+l1.length)-> ∃j s',kX Q f (bs.drop l1.length) q (i+l1.length) l2 I s j s'/\N j s')-> ∃j s',kX Q f bs rs i (l1++l2) fr s j s'/\N j s'
 | [],bs,rs,i,fr,hc,hi,h=>h rs hc hi
 |o::l,bs,rs,i,fr,hc,hi,h=>by
  have G: ∀(bs:List Nat) (n:Nat),bs.tail.drop n=bs.drop (n+1):=fun bs n=>by cases bs<;>simp
  rcases h with⟨E,v,lc,j,S,O,H,M⟩|⟨E,j,H,M⟩
  have J:(bm s.top.gt s.aL||isStore o.op)=false:=by
   rw[O,kh,jC];exact dN (by show¬s.aL<s.aL;omega)
  obtain⟨u,A,D,B⟩:=WQ.thenD (l2:=l2) (N:=N) F (l1:=l) (bs:=bs.tail) (rs:=⟨i,s.aL,s.aL,cu (Q.hint f) o.dst fr.env o.op,false⟩::rs) (i:=i+1) (fr:=j)
   (fun r w=>by
    rcases fc.1 w with rfl|w
    exact⟨rfl,rfl⟩;exact hc r w) (fun r w=>by
    grind) (by
    grind)
  refine⟨u,A,.step E (v:=v) (lc:=lc) (s1:=s.top) ?_ (by rw[J];exact UB hc _ _) rfl H ?_,B⟩;rw[XL hc];exact S;rw[J,kZ F];exact D;obtain⟨u,A,D,B⟩:=WQ.thenD (l2:=l2) (N:=N) F (l1:=l) (bs:=bs.tail) (rs:=rs) (i:=i+1) (fr:=j) hc (fun r w=>Nat.lt_succ_of_lt (hi r w)) (by
   grind)
  exact⟨u,A,.skip E H D,B⟩
end
def jD:Code->List (Code×Code)
 | .seq a b=>jD a++jD b
 | .cond _ a b=>jD a++jD b
 | .block _ b=>jD b
 | .scope b=>jD b
 | .loop b=>jD b
 | .rangeFunc _ _ a b=>jD a++(jD b++[(a,b)])
 |_=>[]
variable{a:SC}{s':St}
section
variable{Q:aH}{f:FuncId}
def vf(i b:Nat):Bool:=b % 2 ^ i==2 ^ i-1
theorem agj{i b:Nat}(h:vf i b=true): ∀j,j<i->b.testBit j=true:=by
 intro j q;have u:b % 2 ^ i=2 ^ i-1:=eq_of_beq h;have w:(b % 2 ^ i).testBit j=true:=by rw[u,Nat.testBit_two_pow_sub_one];exact dQ q
 grind
def Qx:Nat->List Nat->Nat×Bool
 |_,[]=>(0,true)
 |i,b::l=>match Qx (i+1) l with
  |(k,true)=>bif vf i b then(k+1,true) else(k,false)
  |(k,false)=>(k,false)
def F3(bs:List Nat):Nat×List Nat:=(bs.length-(Qx 0 bs).1,bs.drop (bs.length-(Qx 0 bs).1))
def WT(Q:aH)(f:FuncId):Nat->List Nat->List aw->Fr->St->(Fr->St->Prop)->Prop
 |_,_,[],fr,s,N=>N fr s
 |_,[],_::_,_,_,_=>False
 |i,b::bs,o::l,fr,s,N=>vf i b=true/\((fU fr.env o.g=true/\ ∃v lc s1 j,cM Q f o [] fr s.top=some (v,lc,s1)/\s1.ci=s.ci/\di fr o.dst v lc=some j/\WT Q f (i+1) bs l j (s.rX s1) N)\/
  (fU fr.env o.g=false/\ ∃j,di fr o.dst gM fr.loc=some j/\WT Q f (i+1) bs l j s N))
theorem WT.run: ∀ {l:List aw} {i:Nat} {bs:List Nat} {rs:List fZ} {fr:Fr} {s:St} {N:Fr->St->Prop},(∀r∈rs,r.i<i)->WT Q f i bs l fr s N-> ∃j s',kX Q f bs rs i l fr s j s'/\N j s'
 | [],i,bs,rs,fr,s,N,_,h=>⟨fr,s,.nil,by cases bs<;>exact h⟩
 |o::l,i,[],rs,fr,s,N,_,h=>h.elim
 |o::l,i,b::bs,rs,fr,s,N,hi,h=>by
  obtain⟨B,h⟩:=h;have B:=agj B;rcases h with⟨A,v,lc,s1,F,H,G,E,D⟩|⟨A,F,E,D⟩
  obtain⟨j,s',w,u⟩:=WT.run (rs:=⟨i,s.aL,s1.aL,cu (Q.hint f) o.dst fr.env o.op,bm s1.gt s.aL||isStore o.op⟩::rs) (fun r q=>by
   grind) D
  refine⟨j,s',.step A (v:=v) (lc:=lc) (s1:=s1) ?_ (afO fun r q=>B _ (hi r q)) G E w,u⟩;show cM Q f o (jp b rs []) fr s.top=_
  grind [XK]
  obtain⟨j,s',w,u⟩:=WT.run (rs:=rs) (fun r q=>Nat.lt_succ_of_lt (hi r q)) D;exact⟨j,s',.skip A E w,u⟩
def GL(Q:aH)(f:FuncId)(i:Nat)(bs:List Nat)(d:Tmp)(e:ax)(sz:Nat)(s:St)(l:List aw)(N:Fr->St->Prop)(x:Option (aa×Loc×St)):Prop:= ∃v lc s1,x=some (v,lc,s1)/\s1.ci=s.ci/\d<sz/\WT Q f (i+1) bs l ⟨e.set d (some v),sz,lc⟩ (s.rX s1) N
def aaB(Q:aH)(f:FuncId)(i:Nat)(bs:List Nat)(e:ax)(sz:Nat)(s:St)(l:List aw)(N:Fr->St->Prop)(x:Option (aa×Loc×St)):Prop:= ∃v lc s1,x=some (v,lc,s1)/\s1.ci=s.ci/\WT Q f (i+1) bs l ⟨e,sz,lc⟩ (s.rX s1) N
section
variable{i b:Nat}{bs:List Nat}{d:Tmp}{op:Op}{l:List aw}{e:ax}{sz:Nat}{lc:Loc}{s s1:St}{N:Fr->St->Prop}{v:aa}{t:Tmp}{c:Bool}
theorem KK:GL Q f i bs d e sz s l N (some (v,lc,s1))=(s1.ci=s.ci/\d<sz/\WT Q f (i+1) bs l ⟨e.set d (some v),sz,lc⟩ (s.rX s1) N):=by
 apply propext;constructor;rintro⟨A,w,s',h,u,q,j⟩
 grind
 rintro⟨u,q,j⟩;exact⟨v,lc,s1,rfl,u,q,j⟩
theorem aaC:aaB Q f i bs e sz s l N (some (v,lc,s1))=(s1.ci=s.ci/\WT Q f (i+1) bs l ⟨e,sz,lc⟩ (s.rX s1) N):=by
 apply propext;constructor;rintro⟨w,u,s',h,q,j⟩
 grind
 rintro⟨q,j⟩;exact⟨v,lc,s1,rfl,q,j⟩
def D9:WT Q f i bs [] fr s N=N fr s:=by cases bs<;>rfl
def Hp:WT Q f i (b::bs) (⟨some d,op,.aw⟩::l) ⟨e,sz,lc⟩ s N=(vf i b=true/\GL Q f i bs d e sz s l N (cM Q f ⟨some d,op,.aw⟩ [] ⟨e,sz,lc⟩ s.top)):=by
 apply propext;constructor;rintro⟨u,⟨_,v,j,s1,F,B,A,E,w⟩|⟨D,_⟩⟩;obtain⟨q,rfl⟩:=gK.1 E;exact⟨u,v,j,s1,B,A,q,w⟩;cases D;rintro⟨u,v,j,s1,B,A,q,w⟩;exact⟨u,.inl ⟨rfl,v,j,s1,_,B,A,gK.2 ⟨q,rfl⟩,w⟩⟩
def azO:WT Q f i (b::bs) (⟨none,op,.aw⟩::l) ⟨e,sz,lc⟩ s N=(vf i b=true/\aaB Q f i bs e sz s l N (cM Q f ⟨none,op,.aw⟩ [] ⟨e,sz,lc⟩ s.top)):=by
 apply propext;constructor;rintro⟨q,⟨_,v,j,s1,D,B,A,w,u⟩|⟨E,_⟩⟩;have w:D=⟨e,sz,j⟩:=(sI w).symm;subst w;exact⟨q,v,j,s1,B,A,u⟩;cases E;rintro⟨q,v,j,s1,B,A,u⟩;exact⟨q,.inl ⟨rfl,v,j,s1,_,B,A,rfl,u⟩⟩
end
def KR(s:St):s.top.ci=s.ci:=rfl
def ayi(s:St):s.top.aL=s.aL:=rfl
def QO(Q:aH)(f:FuncId)(i:Nat)(bs:List Nat)(o:aw)(d:Tmp)(e:ax)(sz:Nat)(lc:Loc)(s:St)(l:List aw)(N:Fr->St->Prop):Bool->Prop
 |true=>GL Q f i bs d e sz s l N (cM Q f o [] ⟨e,sz,lc⟩ s.top)
 |false=>d<sz/\WT Q f (i+1) bs l ⟨e.set d (some gM),sz,lc⟩ s N
section
variable{i b:Nat}{bs:List Nat}{d:Tmp}{op:Op}{o:aw}{l:List aw}{e:ax}{sz:Nat}{lc:Loc}{s s1:St}{N:Fr->St->Prop}{v:aa}{t:Tmp}{c:Bool}
def abt:QO Q f i bs o d e sz lc s l N true=GL Q f i bs d e sz s l N (cM Q f o [] ⟨e,sz,lc⟩ s.top):=rfl
def abr:QO Q f i bs o d e sz lc s l N false=(d<sz/\WT Q f (i+1) bs l ⟨e.set d (some gM),sz,lc⟩ s N):=rfl
theorem R1:WT Q f i (b::bs) (⟨some d,op,.when t c⟩::l) ⟨e,sz,lc⟩ s N=(vf i b=true/\QO Q f i bs ⟨some d,op,.when t c⟩ d e sz lc s l N (kS (ac e t) c)):=by
 apply propext;constructor;rintro⟨w,⟨j,v,q,s1,D,F,E,B,A⟩|⟨j,D,B,A⟩⟩;have j:fU e (.when t c)=true:=j;rw[qo] at j;obtain⟨u,rfl⟩:=gK.1 B;rw[j];exact⟨w,v,q,s1,F,E,u,A⟩;have j:fU e (.when t c)=false:=j;rw[qo] at j;obtain⟨u,rfl⟩:=gK.1 B;rw[j];exact⟨w,u,A⟩;rintro⟨w,h⟩;refine⟨w,?_⟩;cases j:kS (ac e t) c with
 |true=>
  rw[j] at h;obtain⟨v,q,s1,F,E,u,A⟩:=h
  grind [qo,gK]
 |false=>
  rw[j] at h;exact .inr ⟨by grind [qo],_,gK.2 ⟨h.1,rfl⟩,h.2⟩
end
theorem mY(s s1:St)(mk:aK)(n:Nat):(s.rX s1).get mk n=s1.get mk n:=rfl
theorem pW{s s1:St}(j:s.gt<=s.aL)(h1:s.aL<=s1.aL):(s.rX s1).gt<=(s.rX s1).aL:=by
 show(bif bw s.gt s1.gt then s.gt else s1.gt)<=s1.aL
 grind [cP]
def WQ.mono{s:St}{N A:Fr->Prop}(h: ∀fr,N fr->A fr): ∀ {l:List aw} {fr:Fr},WQ Q f s l fr N->WQ Q f s l fr A
 | [],fr,j=>h fr j
 |o::l,fr,j=>by
  rcases j with⟨j,v,lc,q,D,B,w,u⟩|⟨j,q,w,u⟩
  exact .inl ⟨j,v,lc,q,D,B,w,WQ.mono h u⟩;exact .inr ⟨j,q,w,WQ.mono h u⟩
def WF(Q:aH)(f:FuncId):SC->Fr->St->(Ex->Fr->St->Prop)->Prop
 | .skip,fr,s,K=>K .normal fr s
 | .ret,fr,s,K=>K .ret fr s
 | .exit id,fr,s,K=>K (.exit id) fr s
 | .seq a b,fr,s,K=>WF Q f a fr s (Ex.next K fun fr s=>WF Q f b fr s K)
 | .cond o a b,fr,s,K=>(ev fr.env o=some (.bool true)/\WF Q f a fr s K)\/(ev fr.env o=some (.bool false)/\WF Q f b fr s K)
 | .block id b,fr,s,K=>WF Q f b fr s fun x=>K (x.block id)
 | .scope b,fr,s,K=>WF Q f b fr s K
 | .region ops,fr,s,K=>WP Q f ops fr s fun fr s=>K .normal fr s
 | .draw ops bs,fr,s,K=>s.gt<=s.aL/\WQ Q f s.top (ops.take (F3 bs).1) fr fun j=>WT Q f (F3 bs).1 (F3 bs).2 (ops.drop (F3 bs).1) j s fun fr s=>K .normal fr s
 | .loop b,fr,s,K=>W Q f (.loop b) fr s K
 | .rfun g ps a b,fr,s,K=>W Q f (.rfun g ps a b) fr s K
 | .bad,fr,s,K=>W Q f .bad fr s K
def WF.sound: ∀ {c:SC} {fr:Fr} {s:St} {K:Ex->Fr->St->Prop},WF Q f c fr s K->W Q f c fr s K
 | .skip,_,_,_,h=>fX h
 | .ret,_,_,_,h=>W.ret h
 | .exit _,_,_,_,h=>W.exit h
 | .seq a b,fr,s,K,h=>cU ((WF.sound (c:=a) h).mono fun x fr s D=>by
  cases x with
  |normal=>exact WF.sound (c:=b) D
  |exit i=>exact D
  |ret=>exact D)
 | .cond o a b,fr,s,K,h=>by
   rcases h with⟨A,w⟩|⟨A,w⟩
   exact cQ (t:=true) A (WF.sound (c:=a) w);exact cQ (t:=false) A (WF.sound (c:=b) w)
 | .block id b,fr,s,K,h=>W.block (WF.sound (c:=b) h)
 | .scope b,fr,s,K,h=>W.scope (WF.sound (c:=b) h)
 | .region ops,fr,s,K,h=>by
   obtain⟨u,s',A,w⟩:=h;exact W.region (WL.run A w)
 | .draw ops bs,fr,s,K,h=>by
   have J:(ops.take (F3 bs).1).length<=(F3 bs).1:=List.length_take_le _ _;obtain⟨A,w⟩:=h;have B: ∀q,WT Q f (F3 bs).1 (F3 bs).2 (ops.drop (F3 bs).1) q s (fun fr s=>K .normal fr s)-> ∀j:List fZ,calm j->(∀r∈j,r.i<0+(ops.take (F3 bs).1).length)->
    ∃u s',kX Q f (bs.drop (ops.take (F3 bs).1).length) j (0+(ops.take (F3 bs).1).length) (ops.drop (F3 bs).1) q s u s'/\K .normal u s':=fun q F j _ M=>by
    by_cases hl:(F3 bs).1<=ops.length
    simp_all [F3,WT.run]
    have I:ops.drop (F3 bs).1=[]:=List.drop_eq_nil_of_le (by omega);rw[I] at F ⊢;rw[D9] at F;exact⟨q,s,.nil,F⟩
   obtain⟨u,s',G,H⟩:=WQ.thenD (l1:=ops.take (F3 bs).1) (l2:=ops.drop (F3 bs).1) (N:=fun fr s=>K .normal fr s) (bs:=bs) (rs:=[]) (i:=0) A (fun _ E=>by cases E) (fun _ E=>by cases E) (WQ.mono B w);rw[List.take_append_drop] at G;exact W.drawR G H
 | .loop _,_,_,_,h=>h
 | .rfun _ _ _ _,_,_,_,h=>h
 | .bad,_,_,_,h=>h
def Es(Q:aH)(f:FuncId)(a b:SC)(e:ax)(sz:Nat)(lc:Loc)(s:St)(K:Ex->Fr->St->Prop)(v:Option aa):Prop:=(v=some (.bool true)/\WF Q f a ⟨e,sz,lc⟩ s K)\/(v=some (.bool false)/\WF Q f b ⟨e,sz,lc⟩ s K)
variable{e:ax}{sz:Nat}{lc:Loc}{s:St}{K:Ex->Fr->St->Prop}
def BG:WF Q f .skip ⟨e,sz,lc⟩ s K=K .normal ⟨e,sz,lc⟩ s:=rfl
def zZ:WF Q f .ret ⟨e,sz,lc⟩ s K=K .ret ⟨e,sz,lc⟩ s:=rfl
def D3{id:Nat}:WF Q f (.exit id) ⟨e,sz,lc⟩ s K=K (.exit id) ⟨e,sz,lc⟩ s:=rfl
def qt{b:SC}:WF Q f (.seq a b) ⟨e,sz,lc⟩ s K=WF Q f a ⟨e,sz,lc⟩ s (Ex.next K fun fr s=>WF Q f b fr s K):=rfl
def wu{o:Operand}{b:SC}:WF Q f (.cond o a b) ⟨e,sz,lc⟩ s K=Es Q f a b e sz lc s K (ev e o):=rfl
def zY{id:Nat}{b:SC}:WF Q f (.block id b) ⟨e,sz,lc⟩ s K=WF Q f b ⟨e,sz,lc⟩ s fun x=>K (x.block id):=rfl
def Rj{b:SC}:WF Q f (.scope b) ⟨e,sz,lc⟩ s K=WF Q f b ⟨e,sz,lc⟩ s K:=rfl
def qs:WF Q f (.region ops) ⟨e,sz,lc⟩ s K=WP Q f ops ⟨e,sz,lc⟩ s fun fr s=>K .normal fr s:=rfl
def Hf{bs:List Nat}:WF Q f (.draw ops bs) ⟨e,sz,lc⟩ s K=(s.gt<=s.aL/\WQ Q f s.top (ops.take (F3 bs).1) ⟨e,sz,lc⟩ fun j=>WT Q f (F3 bs).1 (F3 bs).2 (ops.drop (F3 bs).1) j s fun fr s=>K .normal fr s):=rfl
def Li{b:SC}:WF Q f (.loop b) ⟨e,sz,lc⟩ s K=W Q f (.loop b) ⟨e,sz,lc⟩ s K:=rfl
def B9{b:SC}:Es Q f a b e sz lc s K (some (.bool true))=WF Q f a ⟨e,sz,lc⟩ s K:=by simp[Es]
def Ar{b:SC}:Es Q f a b e sz lc s K (some (.bool false))=WF Q f b ⟨e,sz,lc⟩ s K:=by simp[Es]
def aq.of3{n:Nat}{t:Tmp}{v:aa}{s:St}(B:Q.P.funcs[f]? =some fn)(D:fn.body.map eD=some sc)(A:fn.ntmps=n)(w:fn.results.toList=[.tmp t])(j:Q.spec f=none)(u:v.ge=true)(h:WF Q f sc (aaA n args) s fun x q s1=>s1=s'/\(x= .normal\/x= .ret)/\ac q.env t=v)(F:Q.specH f=none:=by rfl)(E:Q.specW f=none:=by rfl):aq Q f args s v s':=
 aq.of2 B D A w j (h.sound.mono fun _ _ _ ⟨I,H,G⟩=>⟨I,H,dZ G u⟩) F E
def Zd:nT []= .tup []:=rfl
def Ze{v:aa}:nT [v]=v:=rfl
def Zf{a b:aa}:nT [a,b]= .tup [a,b]:=rfl
def Zg{a b c:aa}:nT [a,b,c]= .tup [a,b,c]:=rfl
def aq.of4{n:Nat}{rs:List ResultVar}{v:aa}{s:St}(A:Q.P.funcs[f]? =some fn)(B:fn.body.map eD=some sc)(w:fn.ntmps=n)(u:fn.results.toList=rs)(j:Q.spec f=none)(h:WF Q f sc (aaA n args) s fun x q s1=>s1=s'/\(x= .normal\/x= .ret)/\(jt Q [] q s1 rs).map nT=some v)(E:Q.specH f=none:=by rfl)(D:Q.specW f=none:=by rfl):aq Q f args s v s':=
 aq.of2 A B w u j (h.sound.mono fun _ _ _ ⟨G,F,H⟩=>⟨G,F,by simp_all⟩) E D
def W.loopF{b:SC}(h:WF Q f b fr s (Ex.next K fun fr s=>W Q f (.loop b) fr s K)):W Q f (.loop b) fr s K:=W.loop1 h.sound
end
variable{K:Ex->Fr->St->Prop}{o:Op}{p:aK->Option (aa×Loc×St)}
section
variable{Q:aH}{f:FuncId}
structure iH where
 i:Nat
 nw:Bool
 lo:Bool
 ft:dt
def pD(b j:Nat):Bool:=b / 2 ^ j % 2==1
theorem aa6(b j:Nat):pD b j=b.testBit j:=by
 grind [pD]
def fo(b:Nat)(ft:dt)(lo:Bool):List iH->Bool
 | []=>true
 |a::R=>(pD b a.i||(!a.nw&& !((lo||a.lo)&&ft.meets a.ft)))&&fo b ft lo R
def Ao:Op->Nat
 | .store .. | .alloc _| .box .. =>1
 | .load .. | .fieldAddr .. | .indexAddr .. | .nilCheck _| .move _| .assign _| .pick .. | .build .. | .field .. | .index .. | .binOp .. | .unOp .. | .convert .. | .makeFunc .. | .extract .. =>3
 | .lookup .. | .slice .. =>0
 | .call {callee:=.value _, .. }=>0
 | .call {callee:=.builtin .len, .. }=>0
 |_=>2
def Ab(rs:List fZ)(R:List iH):Prop:= ∀r∈rs, ∃a∈R,a.i=r.i/\(a.nw=false->r.c0=r.c1)/\(a.lo=false->r.loud=false)/\a.ft=r.foot
def Yu{b:Nat}{ft:dt}{lo:Bool}: ∀ {R:List iH},fo b ft lo R=true-> ∀a∈R,pD b a.i=true\/(a.nw=false/\((lo||a.lo)&&ft.meets a.ft)=false)
 | [],_,a,h=>by cases h
 |x::R,h,a,j=>by
  simp only[fo,bu,zQ,awP] at h;rcases fc.1 j with rfl|j
  exact h.1;exact Yu h.2 a j
def r9(b:Nat)(ft:dt)(lo:Bool):List iH->Bool
 | []=>true
 |a::R=>(pD b a.i|| !((lo||a.lo)&&ft.meets a.ft))&&r9 b ft lo R
def Yt{b:Nat}{ft:dt}{lo:Bool}: ∀ {R:List iH},r9 b ft lo R=true-> ∀a∈R,pD b a.i=true\/((lo||a.lo)&&ft.meets a.ft)=false
 | [],_,a,h=>by cases h
 |x::R,h,a,j=>by
  simp only[r9,bu,zQ,awP] at h;rcases fc.1 j with rfl|j
  exact h.1;exact Yt h.2 a j
def xt{b:Nat}{ft:dt}{lo:Bool}: ∀ {R:List iH},fo b ft lo R=true->r9 b ft lo R=true
 | [],_=>rfl
 |x::R,h=>by
  simp only[fo,r9,bu,zQ] at h ⊢;exact⟨h.1.imp id fun h=>h.2,xt h.2⟩
theorem zd{b:Nat}{ft:dt}{lo:Bool}{R:List iH}(q:Ab rs R)(h:fo b ft lo R=true):jp b rs []=[]:=XK fun r j=>by
 obtain⟨a,u,A,w,_,_⟩:=q r j;rcases Yu h a u with h|h
 all_goals grind [aa6]
theorem vq{b:Nat}{ft:dt}{lo lo':Bool}{R:List iH}(q:Ab rs R)(h:r9 b ft lo R=true)(A:lo=false->lo'=false):pS b ft lo' rs=true:=by
 simp only[pS,f8];intro r j;obtain⟨a,w,B,_,u,D⟩:=q r j;rcases Yt h a w with h|h
 all_goals grind [aa6]
def WG(Q:aH)(f:FuncId):Nat->List iH->List Nat->List aw->Fr->St->(Fr->St->Prop)->Prop
 |_,_,_,[],fr,s,N=>N fr s
 |_,_,[],_::_,_,_,_=>False
 |i,R,b::bs,o::l,fr,s,N=>
  (fU fr.env o.g=true/\Ao o.op=3/\ ∃v lc j,(∀mk,cM Q f o mk fr s.top=some (v,lc,s.top))/\di fr o.dst v lc=some j/\r9 b (cu (Q.hint f) o.dst fr.env o.op) false R=true/\WG Q f (i+1) (⟨i,false,false,cu (Q.hint f) o.dst fr.env o.op⟩::R) bs l j s N)\/
  (fU fr.env o.g=true/\ ∃v lc s1 j,cM Q f o [] fr s.top=some (v,lc,s1)/\di fr o.dst v lc=some j/\
   ((Ao o.op=0/\s1=s.top/\fo b (cu (Q.hint f) o.dst fr.env o.op) false R=true/\WG Q f (i+1) (⟨i,false,false,cu (Q.hint f) o.dst fr.env o.op⟩::R) bs l j s N)\/
    (Ao o.op=1/\s1=s.top/\fo b (cu (Q.hint f) o.dst fr.env o.op) true R=true/\WG Q f (i+1) (⟨i,false,true,cu (Q.hint f) o.dst fr.env o.op⟩::R) bs l j s N)\/
    (Ao o.op=2/\s1.ci=s.ci/\fo b (cu (Q.hint f) o.dst fr.env o.op) true R=true/\s.aL<=s1.aL/\WG Q f (i+1) (⟨i,true,true,cu (Q.hint f) o.dst fr.env o.op⟩::R) bs l j (s.rX s1) N)))\/
  (fU fr.env o.g=false/\ ∃j,di fr o.dst gM fr.loc=some j/\WG Q f (i+1) R bs l j s N)
theorem Ab.cons{R:List iH}(h:Ab rs R){r:fZ}{a:iH}(h1:a.i=r.i)(w:a.nw=false->r.c0=r.c1)(u:a.lo=false->r.loud=false)(q:a.ft=r.foot):Ab (r::rs) (a::R):=fun x j=>by
 rcases fc.1 j with rfl|j
 exact⟨a,by simp,h1,w,u,q⟩;obtain⟨B,A,r⟩:=h x j
 grind
def adG(h:Ao o=3):isStore o=false:=by
 cases o<;>first|rfl|(cases h;done)
def adF(h:Ao o=0):isStore o=false:=by
 cases o<;>first|rfl|(cases h;done)
def WG.run: ∀ {l:List aw} {i:Nat} {R:List iH} {bs:List Nat} {rs:List fZ} {fr:Fr} {s:St} {N:Fr->St->Prop},s.gt<=s.aL->Ab rs R->WG Q f i R bs l fr s N-> ∃j s',kX Q f bs rs i l fr s j s'/\N j s'
 | [],i,R,bs,rs,fr,s,N,_,_,h=>⟨fr,s,.nil,by cases bs<;>exact h⟩
 |o::l,i,R,[],rs,fr,s,N,_,_,h=>h.elim
 |o::l,i,R,b::bs,rs,fr,s,N,hm,hr,h=>by
  have J:bm s.aL s.aL=false:=by rw[jC];simp
  rcases h with⟨A,c,v,lc,G,F,D,u,B⟩|⟨A,v,lc,s1,G,F,D,I⟩|⟨A,G,D,I⟩
  have E:(bm s.top.gt s.aL||isStore o.op)=false:=by rw[adG c,kh];exact J
  obtain⟨j,s',q,w⟩:=WG.run (rs:=⟨i,s.aL,s.top.aL,cu (Q.hint f) o.dst fr.env o.op,bm s.top.gt s.aL||isStore o.op⟩::rs) hm (hr.cons rfl (fun _=>rfl) (fun _=>E) rfl) B;rw[<-kZ hm] at q;exact⟨j,s',.step A (v:=v) (lc:=lc) (s1:=s.top) (F _) (vq hr u fun _=>E) rfl D q,w⟩;rcases I with⟨c,rfl,u,B⟩|⟨c,rfl,u,B⟩|⟨c,O,u,M,B⟩
  have E:(bm s.top.gt s.aL||isStore o.op)=false:=by rw[adF c,kh];exact J
  obtain⟨j,s',q,w⟩:=WG.run (rs:=⟨i,s.aL,s.top.aL,cu (Q.hint f) o.dst fr.env o.op,bm s.top.gt s.aL||isStore o.op⟩::rs) hm (hr.cons rfl (fun _=>rfl) (fun _=>E) rfl) B;rw[<-kZ hm] at q;refine⟨j,s',.step A (v:=v) (lc:=lc) (s1:=s.top) ?_ ?_ rfl D q,w⟩;show cM Q f o (jp b rs []) fr s.top=_;rw[zd hr u];exact F;exact vq hr (xt u) fun _=>E;obtain⟨j,s',q,w⟩:=WG.run (rs:=⟨i,s.aL,s.top.aL,cu (Q.hint f) o.dst fr.env o.op,bm s.top.gt s.aL||isStore o.op⟩::rs) hm (hr.cons rfl (fun _=>rfl) (fun h=>by cases h) rfl) B;rw[<-kZ hm] at q;refine⟨j,s',.step A (v:=v) (lc:=lc) (s1:=s.top) ?_ ?_ rfl D q,w⟩;show cM Q f o (jp b rs []) fr s.top=_;rw[zd hr u];exact F;exact vq hr (xt u) fun h=>by cases h
  obtain⟨j,s',q,w⟩:=WG.run (rs:=⟨i,s.aL,s1.aL,cu (Q.hint f) o.dst fr.env o.op,bm s1.gt s.aL||isStore o.op⟩::rs) (pW hm M) (hr.cons rfl (fun h=>by cases h) (fun h=>by cases h) rfl) B;refine⟨j,s',.step A (v:=v) (lc:=lc) (s1:=s1) ?_ ?_ O D q,w⟩;show cM Q f o (jp b rs []) fr s.top=_;rw[zd hr u];exact F;exact vq hr (xt u) fun h=>by cases h
  obtain⟨j,s',q,w⟩:=WG.run (rs:=rs) hm (fun r H=>hr r H) I;exact⟨j,s',.skip A D q,w⟩
def W.drawG{bs:List Nat}{s:St}(j:s.gt<=s.aL)(h:WG Q f 0 [] bs ops fr s fun fr s=>K .normal fr s):W Q f (.draw ops bs) fr s K:=
 let⟨_,_,h1,h2⟩:=WG.run (rs:=[]) j (fun _ h=>by cases h) h
 W.drawR h1 h2
def Qp(Q:aH)(f:FuncId)(c:Nat)(ft:dt)(i:Nat)(R:List iH)(b:Nat)(bs:List Nat)(d:Option Tmp)(e:ax)(sz:Nat)(s:St)(l:List aw)(N:Fr->St->Prop)(p:aK->Option (aa×Loc×St)):Prop:=
 (c=3/\ ∃v lc j,(∀mk,p mk=some (v,lc,s.top))/\di ⟨e,sz,lc⟩ d v lc=some j/\r9 b ft false R=true/\WG Q f (i+1) (⟨i,false,false,ft⟩::R) bs l j s N)\/
 (∃v lc s1 j,p []=some (v,lc,s1)/\di ⟨e,sz,lc⟩ d v lc=some j/\
  ((c=0/\s1=s.top/\fo b ft false R=true/\WG Q f (i+1) (⟨i,false,false,ft⟩::R) bs l j s N)\/
   (c=1/\s1=s.top/\fo b ft true R=true/\WG Q f (i+1) (⟨i,false,true,ft⟩::R) bs l j s N)\/
   (c=2/\s1.ci=s.ci/\fo b ft true R=true/\s.aL<=s1.aL/\WG Q f (i+1) (⟨i,true,true,ft⟩::R) bs l j (s.rX s1) N)))
def Qq(Q:aH)(f:FuncId)(c:Nat)(ft:dt)(i:Nat)(R:List iH)(b:Nat)(bs:List Nat)(d:Option Tmp)(e:ax)(sz:Nat)(s:St)(l:List aw)(N:Fr->St->Prop)(x:Option (aa×Loc×St)):Prop:= ∃v lc s1 j,x=some (v,lc,s1)/\di ⟨e,sz,lc⟩ d v lc=some j/\
 ((c=0/\s1=s.top/\fo b ft false R=true/\WG Q f (i+1) (⟨i,false,false,ft⟩::R) bs l j s N)\/
  (c=1/\s1=s.top/\fo b ft true R=true/\WG Q f (i+1) (⟨i,false,true,ft⟩::R) bs l j s N)\/
  (c=2/\s1.ci=s.ci/\fo b ft true R=true/\s.aL<=s1.aL/\WG Q f (i+1) (⟨i,true,true,ft⟩::R) bs l j (s.rX s1) N))
section
variable{i b c:Nat}{R:List iH}{ft:dt}{bs:List Nat}{d:Tmp}{op:Op}{l:List aw}{e:ax}{sz:Nat}{lc:Loc}{s s1:St}{N:Fr->St->Prop}{v:aa}{t:Tmp}{x:Option (aa×Loc×St)}
def as8:WG Q f i R bs [] fr s N=N fr s:=by cases bs<;>rfl
def Kd{fr:Fr}{d:Option Tmp}{v:aa}{lc l2:Loc}:di ⟨e,sz,l2⟩ d v lc=di ⟨e,sz,lc⟩ d v lc:=by cases d<;>rfl
def as7{d:Option Tmp}:WG Q f i R (b::bs) (⟨d,op,.aw⟩::l) ⟨e,sz,lc⟩ s N=Qp Q f (Ao op) (cu (Q.hint f) d e op) i R b bs d e sz s l N (fun mk=>cM Q f ⟨d,op,.aw⟩ mk ⟨e,sz,lc⟩ s.top):=by
 apply propext;constructor;rintro(⟨_,c,v,j,q,A,u,w⟩|⟨_,v,j,s1,q,A,u,w⟩|⟨B,_⟩);have u:di ⟨e,sz,lc⟩ d v j=some q:=u;rw[Kd (fr:=⟨e,sz,lc⟩)] at u;exact .inl ⟨c,v,j,q,A,u,w⟩;have u:di ⟨e,sz,lc⟩ d v j=some q:=u;rw[Kd (fr:=⟨e,sz,lc⟩)] at u;exact .inr ⟨v,j,s1,q,A,u,w⟩;cases B;rintro(⟨c,v,j,q,A,u,w⟩|⟨v,j,s1,q,A,u,w⟩);rw[<-Kd (fr:=⟨e,sz,lc⟩) (l2:=lc)] at u;exact .inl ⟨rfl,c,v,j,q,A,u,w⟩;rw[<-Kd (fr:=⟨e,sz,lc⟩) (l2:=lc)] at u;exact .inr (.inl ⟨rfl,v,j,s1,q,A,u,w⟩)
theorem awo:Qp Q f 3 ft i R b bs (some d) e sz s l N (fun _=>some (v,lc,s.top))=(d<sz/\r9 b ft false R=true/\WG Q f (i+1) (⟨i,false,false,ft⟩::R) bs l ⟨e.set d (some v),sz,lc⟩ s N):=by
 apply propext;constructor
 ·rintro(⟨_,B,j,u,h,q,A,w⟩|⟨B,j,s',u,h,q,⟨h,_⟩|⟨h,_⟩|⟨h,_⟩⟩)
  have h:=h []
  grind [gK]
  all_goals grind
 rintro⟨q,A,w⟩;exact .inl ⟨rfl,v,lc,_,fun _=>rfl,gK.2 ⟨q,rfl⟩,A,w⟩
def awp{d:Option Tmp}:Qp Q f 1 ft i R b bs d e sz s l N p=Qq Q f 1 ft i R b bs d e sz s l N (p []):=by
 apply propext;constructor;rintro(⟨h,_⟩|h);cases h;exact h;exact fun h=>.inr h
theorem awq:Qq Q f 1 ft i R b bs (some d) e sz s l N (some (v,lc,s.top))=(d<sz/\fo b ft true R=true/\WG Q f (i+1) (⟨i,false,true,ft⟩::R) bs l ⟨e.set d (some v),sz,lc⟩ s N):=by
 apply propext;constructor
 ·rintro⟨B,u,s',A,h,q,⟨h,_⟩|⟨_,_,j,D⟩|⟨h,_⟩⟩
  all_goals grind [gK]
 rintro⟨q,w,j⟩;exact⟨v,lc,_,_,rfl,gK.2 ⟨q,rfl⟩,.inr (.inl ⟨rfl,rfl,w,j⟩)⟩
def awr:Qq Q f 1 ft i R b bs none e sz s l N (some (v,lc,s.top))=(fo b ft true R=true/\WG Q f (i+1) (⟨i,false,true,ft⟩::R) bs l ⟨e,sz,lc⟩ s N):=by
 apply propext;constructor;rintro⟨D,w,s',u,h,q,⟨h,_⟩|⟨_,_,j,A⟩|⟨h,_⟩⟩;cases h;simp only[aJ,bI] at h;obtain⟨rfl,rfl,rfl⟩:=h;have q:u=⟨e,sz,lc⟩:=(sI q).symm;subst q;exact⟨j,A⟩;cases h;rintro⟨B,j⟩;exact⟨v,lc,_,⟨e,sz,lc⟩,rfl,rfl,.inr (.inl ⟨rfl,rfl,B,j⟩)⟩
end
section
variable{b:Nat}{ft:dt}{lo:Bool}{R:List iH}{i:Nat}{nw l2:Bool}{ft2:dt}
def aye:fo b ft lo []=true:=rfl
def ayc:r9 b ft lo []=true:=rfl
def ayb:r9 b ft lo (⟨i,nw,l2,ft2⟩::R)=((pD b i|| !((lo||l2)&&ft.meets ft2))&&r9 b ft lo R):=rfl
def ayd:fo b ft lo (⟨i,nw,l2,ft2⟩::R)=((pD b i||(!nw&& !((lo||l2)&&ft.meets ft2)))&&fo b ft lo R):=rfl
def atI:aqs ft .none=false:=by cases ft<;>rfl
def avE:aqs .none ft=false:=by cases ft<;>rfl
def aw9(t:Nat):aqs .all (.loc t)=false:=rfl
def ax5(t:Nat):aqs (.loc t) .all=false:=rfl
def ax6(t u:Nat):aqs (.loc t) (.loc u)=aQ t u:=rfl
end
def axT(h:Tmp->Nat)(d:Option Tmp)(e:ax)(t:TypeId)(a:Operand):cu h d e (.load t a)=AB e a:=rfl
def ax0(h:Tmp->Nat)(d:Option Tmp)(e:ax)(t:TypeId)(a x:Operand):cu h d e (.store t a x)=AB e a:=rfl
def axQ(h:Tmp->Nat)(d:Option Tmp)(e:ax)(t:TypeId)(a:Operand)(i:Nat):cu h d e (.fieldAddr t a i)=ve e a:=rfl
def axS(h:Tmp->Nat)(d:Option Tmp)(e:ax)(t:TypeId)(a i:Operand):cu h d e (.indexAddr t a i)=ve e a:=rfl
def axX(h:Tmp->Nat)(d:Option Tmp)(e:ax)(a:Operand):cu h d e (.move a)= .none:=rfl
def axJ(h:Tmp->Nat)(d:Option Tmp)(e:ax)(a:Operand):cu h d e (.assign a)= .none:=rfl
def axM(h:Tmp->Nat)(d:Option Tmp)(e:ax)(t:TypeId)(ps:Array (Nat×Operand)):cu h d e (.build t ps)= .none:=rfl
def axN(h:Tmp->Nat)(d:Option Tmp)(e:ax)(t:TypeId)(n:Nat)(ps:Array (Nat×Operand)):cu h d e (.buildSlice t n ps)= .none:=rfl
def axK(h:Tmp->Nat)(d:Option Tmp)(e:ax)(o:BinOp)(t u:TypeId)(x y:Operand):cu h d e (.binOp o t x y u)= .none:=rfl
def ax1(h:Tmp->Nat)(d:Option Tmp)(e:ax)(o:UnOp)(t:TypeId)(x:Operand):cu h d e (.unOp o t x)= .none:=rfl
def axP(h:Tmp->Nat)(d:Option Tmp)(e:ax)(a:Operand)(i:Nat):cu h d e (.extract a i)= .none:=rfl
def axH(h:Tmp->Nat)(d:Tmp)(e:ax)(t:TypeId):cu h (some d) e (.alloc t)=bif aQ (h d) 1 then .loc d else .none:=rfl
def axL(h:Tmp->Nat)(d:Tmp)(e:ax)(t:TypeId)(x:Operand):cu h (some d) e (.box t x)=bif aQ (h d) 1 then .loc d else .none:=rfl
def axO(h:Tmp->Nat)(d:Option Tmp)(e:ax)(x:Operand)(as:Array Operand)(ts:Array TypeId):cu h d e (.call ⟨.value x,as,ts⟩)= .all:=rfl
def axI(h:Tmp->Nat)(d:Option Tmp)(e:ax)(as:Array Operand)(ts:Array TypeId):cu h d e (.call ⟨.builtin .append,as,ts⟩)= .all:=rfl
def goA:aa->dt
 | .rd t _ _=>.loc t
 | .ptr n _=>.obj n
 | .ro _=>.none
 |_=>.all
def M4:aa->dt
 | .rd t _ _=>.loc t
 |_=>.none
def atJ(e:ax)(t:Tmp):AB e (.tmp t)=goA (ac e t):=by
 show(match ev e (.tmp t) with|some (.rd t _ _)=>dt.loc t|some (.ptr n _)=>.obj n|some (.ro _)=>.none|_=>.all)=_;rw[aA];cases ac e t<;>rfl
def atK(e:ax)(t:Tmp):ve e (.tmp t)=M4 (ac e t):=by
 show(match ev e (.tmp t) with|some (.rd t _ _)=>dt.loc t|_=>.none)=_;rw[aA];cases ac e t<;>rfl
def axx(t g o:Nat):goA (.rd t g o)= .loc t:=rfl
def axz(x:List aa):goA (.ro x)= .none:=rfl
def axD(t g o:Nat):M4 (.rd t g o)= .loc t:=rfl
def axF(x:List aa):M4 (.ro x)= .none:=rfl
def axq(t:TypeId)(a:Operand):Ao (.load t a)=3:=rfl
def axs(t:TypeId)(a x:Operand):Ao (.store t a x)=1:=rfl
def axf(t:TypeId):Ao (.alloc t)=1:=rfl
def axj(t:TypeId)(x:Operand):Ao (.box t x)=1:=rfl
def axo(t:TypeId)(a:Operand)(i:Nat):Ao (.fieldAddr t a i)=3:=rfl
def axp(t:TypeId)(a i:Operand):Ao (.indexAddr t a i)=3:=rfl
def axr(a:Operand):Ao (.move a)=3:=rfl
def axh(a:Operand):Ao (.assign a)=3:=rfl
def axk(t:TypeId)(ps:Array (Nat×Operand)):Ao (.build t ps)=3:=rfl
def axl(t:TypeId)(n:Nat)(ps:Array (Nat×Operand)):Ao (.buildSlice t n ps)=2:=rfl
def axi(o:BinOp)(t u:TypeId)(x y:Operand):Ao (.binOp o t x y u)=3:=rfl
def axt(o:UnOp)(t:TypeId)(x:Operand):Ao (.unOp o t x)=3:=rfl
def axn(a:Operand)(i:Nat):Ao (.extract a i)=3:=rfl
def axm(x:Operand)(as:Array Operand)(ts:Array TypeId):Ao (.call ⟨.value x,as,ts⟩)=0:=rfl
def axg(as:Array Operand)(ts:Array TypeId):Ao (.call ⟨.builtin .append,as,ts⟩)=2:=rfl
end
variable{xs:Array Operand}{ts:Array TypeId}{ps:List Tmp}{h o:Operand}
section
variable{Q:aH}{f:FuncId}
theorem aq.sp{g:FuncId}{args:List aa}{s:St}{sp:List aa->Option aa}{v:aa}(h:Q.spec g=some sp)(j:sp args=some v):aq Q g args s v s:=by
 refine⟨1,?_⟩;show jU Q (cy Q 0) g args [] s=_
 grind [jU]
theorem aq.sp_inv{g:FuncId}{args:List aa}{s s1:St}{sp:List aa->Option aa}{v:aa}(h:Q.spec g=some sp)(q:aq Q g args s v s1):sp args=some v/\s1=s:=by
 obtain⟨n,j⟩:=q;cases n with
 |zero=>cases j
 |succ n=>
  have j:jU Q (cy Q n) g args [] s=some (v,s1):=j
  grind [jU,ak]
def Dy(d:Tmp)(e:ax)(sz:Nat)(C:Fr->St->Prop)(x:Option (aa×Loc×St)):Prop:= ∃v lc s,x=some (v,lc,s)/\d<sz/\C ⟨e.set d (some v),sz,lc⟩ s
def Qr(e:ax)(sz:Nat)(C:Fr->St->Prop)(x:Option (aa×Loc×St)):Prop:= ∃v lc s,x=some (v,lc,s)/\C ⟨e,sz,lc⟩ s
def cG(Q:aH)(g:FuncId)(args:List aa)(d:Tmp)(e:ax)(sz:Nat)(lc:Loc)(s:St)(C:Fr->St->Prop):Prop:= ∃v s1,aq Q g args s v s1/\d<sz/\C ⟨e.set d (some v),sz,lc⟩ s1
def zN(Q:aH)(n:Nat)(args:List aa)(d:Tmp)(e:ax)(sz:Nat)(lc:Loc)(s:St)(C:Fr->St->Prop):Prop:= ∃v s1,ji Q n args s v s1/\d<sz/\C ⟨e.set d (some v),sz,lc⟩ s1
def yf(Q:aH)(d:Tmp)(e:ax)(sz:Nat)(lc:Loc)(s:St)(C:Fr->St->Prop)(g:FuncId)(args:List aa):Option (List aa->Option aa)->Prop
 |some sp=>Dy d e sz C ((sp args).bind fun v=>some (v,lc,s))
 |none=>cG Q g args d e sz lc s C
def BX(Q:aH)(d:Tmp)(e:ax)(sz:Nat)(lc:Loc)(s:St)(C:Fr->St->Prop):Option aa->Option (List aa)->Prop
 |some (.func (.func g) a b),some args=>yf Q d e sz lc s C g (a++(args++b)) (Q.spec g)
 |some (.yld n),some args=>zN Q n args d e sz lc s C
 |_,_=>False
def ot:Op->Bool
 | .call {callee:=.value _, .. }=>true
 |_=>false
def Ce(Q:aH)(f:FuncId)(op:Op)(d:Tmp)(e:ax)(sz:Nat)(lc:Loc)(s:St)(C:Fr->St->Prop):Bool->Prop
 |false=>Dy d e sz C (cM Q f ⟨some d,op,.aw⟩ [] ⟨e,sz,lc⟩ s)
 |true=>match op with
  | .call {callee:=.value x,args:=xs, .. }=>BX Q d e sz lc s C (ev e x) (evcs e xs.toList)
  |_=>False
def M5(Q:aH)(f:FuncId)(op:Op)(e:ax)(sz:Nat)(lc:Loc)(s:St)(C:Fr->St->Prop):Option Tmp->Prop
 |some d=>Ce Q f op d e sz lc s C (ot op)
 |none=>Qr e sz C (cM Q f ⟨none,op,.aw⟩ [] ⟨e,sz,lc⟩ s)
def Pb(e:ax)(sz:Nat)(lc:Loc)(s:St)(C:Fr->St->Prop):Option Tmp->Prop
 |some d=>d<sz/\C ⟨e.set d (some gM),sz,lc⟩ s
 |none=>C ⟨e,sz,lc⟩ s
def ifV(Q:aH)(f:FuncId)(op:Op)(e:ax)(sz:Nat)(lc:Loc)(s:St)(C:Fr->St->Prop)(d:Option Tmp):Bool->Prop
 |true=>M5 Q f op e sz lc s C d
 |false=>Pb e sz lc s C d
def YC(Q:aH)(f:FuncId)(op:Op)(d:Option Tmp)(e:ax)(sz:Nat)(lc:Loc)(s:St)(C:Fr->St->Prop):SG->Prop
 | .aw=>M5 Q f op e sz lc s C d
 | .when t b=>ifV Q f op e sz lc s C d (kS (ac e t) b)
 | .never=>Pb e sz lc s C d
def WV(Q:aH)(f:FuncId):List aw->Fr->St->(Fr->St->Prop)->Prop
 | [],fr,s,N=>N fr s
 |o::l,fr,s,N=>YC Q f o.op o.dst fr.env fr.size fr.loc s (fun fr s=>WV Q f l fr s N) o.g
def U0{o:aw}{l:List aw}{s:St}{N:Fr->St->Prop}(H:fU fr.env o.g=true)(G: ∀ {fr s},WV Q f l fr s N->WL Q f l fr s N)(h:M5 Q f o.op fr.env fr.size fr.loc s (fun fr s=>WV Q f l fr s N) o.dst):WL Q f (o::l) fr s N:=by
 obtain⟨d,op,gd⟩:=o;obtain⟨e,sz,lc⟩:=fr;cases d with
 |none=>
  obtain⟨v,lc',s1,j,B⟩:=h;obtain⟨q,D,F,E⟩:=G B;refine⟨q,D,.step (fr1:=⟨e,sz,lc'⟩) (s1:=s1) ?_ F,E⟩;have j:cM Q f ⟨none,op,gd⟩ [] ⟨e,sz,lc⟩ s=some (v,lc',s1):=j;simp only[sr,H,j,cT,au];rfl
 |some d=>
  have plain:Dy d e sz (fun fr s=>WV Q f l fr s N) (cM Q f ⟨some d,op,.aw⟩ [] ⟨e,sz,lc⟩ s)->WL Q f (⟨some d,op,gd⟩::l) ⟨e,sz,lc⟩ s N:=by
   rintro⟨v,lc',s1,j,B,A⟩;obtain⟨q,D,F,E⟩:=G A;refine⟨q,D,.step (fr1:=⟨e.set d (some v),sz,lc'⟩) (s1:=s1) ?_ F,E⟩;have j:cM Q f ⟨some d,op,gd⟩ [] ⟨e,sz,lc⟩ s=some (v,lc',s1):=j;simp only[sr,H,j,cT,au,(gK (e:=e) (lc:=lc) (lc':=lc')).2 ⟨B,rfl⟩]
  have h:Ce Q f op d e sz lc s (fun fr s=>WV Q f l fr s N) (ot op):=h;cases hc:ot op with
  |false=>rw[hc] at h;exact plain h
  |true=>
   rw[hc] at h;unfold ot at hc;split at hc;rename_i x xs ts _;have h:BX Q d e sz lc s (fun fr s=>WV Q f l fr s N) (ev e x) (evcs e xs.toList):=h;unfold BX at h;split at h;rename_i g a b args j B;have w:callee e ⟨.value x,xs,ts⟩=some (g,a++(args++b)):=by simp only[callee,j,B,au]
   unfold yf at h;split at h;rename_i sp M;obtain⟨v,lc',s1,A,J,I⟩:=h;simp only[ak,aJ,bI] at A;obtain⟨u,O,rfl,rfl,rfl⟩:=A;exact WL.call H rfl (by simp) w (.sp M O) (gK.2 ⟨J,rfl⟩) (G I);obtain⟨v,s1,A,J,I⟩:=h;exact WL.call H rfl (by simp) w A (gK.2 ⟨J,rfl⟩) (G I);rename_i n args j B;obtain⟨v,s1,A,J,I⟩:=h;obtain⟨q,D,F,E⟩:=G I;exact⟨q,D,.yld H rfl (by simp only[yieldee,j,B,au]) A (gK.2 ⟨J,rfl⟩) F,E⟩;exact h.elim;cases hc
def X8{o:aw}{l:List aw}{s:St}{N:Fr->St->Prop}(B:fU fr.env o.g=false)(A: ∀ {fr s},WV Q f l fr s N->WL Q f l fr s N)(h:Pb fr.env fr.size fr.loc s (fun fr s=>WV Q f l fr s N) o.dst):WL Q f (o::l) fr s N:=by
 obtain⟨d,op,gd⟩:=o;obtain⟨e,sz,lc⟩:=fr;cases d with
 |none=>
  obtain⟨j,q,w,u⟩:=A h;refine⟨j,q,.step (fr1:=⟨e,sz,lc⟩) (s1:=s) ?_ w,u⟩;simp only[sr,B,cF];rfl
 |some d=>
  obtain⟨j,q,w,u⟩:=A h.2;refine⟨j,q,.step (fr1:=⟨e.set d (some gM),sz,lc⟩) (s1:=s) ?_ w,u⟩;simp only[sr,B,cF,(gK (e:=e) (lc:=lc) (lc':=lc)).2 ⟨h.1,rfl⟩,au]
def WV.run: ∀ {l:List aw} {fr:Fr} {s:St} {N:Fr->St->Prop},WV Q f l fr s N->WL Q f l fr s N
 | [],fr,s,N,h=>⟨fr,s,.nil,h⟩
 |o::l,fr,s,N,h=>by
  have h:YC Q f o.op o.dst fr.env fr.size fr.loc s (fun fr s=>WV Q f l fr s N) o.g:=h;cases hg:o.g with
  |aw=>
   rw[hg] at h;exact U0 (by rw[hg];rfl) WV.run h
  |never=>
   rw[hg] at h;exact X8 (by rw[hg];rfl) WV.run h
  | «when» t b=>
    rw[hg] at h;have h:ifV Q f o.op fr.env fr.size fr.loc s (fun fr s=>WV Q f l fr s N) o.dst (kS (ac fr.env t) b):=h;have j:fU fr.env o.g=kS (ac fr.env t) b:=by rw[hg,qo]
    cases hv:kS (ac fr.env t) b with
    |true=>rw[hv] at h;exact U0 (by rw[j,hv]) WV.run h
    |false=>rw[hv] at h;exact X8 (by rw[j,hv]) WV.run h
def WC(Q:aH)(f:FuncId):SC->Fr->St->(Ex->Fr->St->Prop)->Prop
 | .skip,fr,s,K=>K .normal fr s
 | .ret,fr,s,K=>K .ret fr s
 | .exit id,fr,s,K=>K (.exit id) fr s
 | .seq a b,fr,s,K=>WC Q f a fr s (Ex.next K fun fr s=>WC Q f b fr s K)
 | .cond o a b,fr,s,K=>(ev fr.env o=some (.bool true)/\WC Q f a fr s K)\/(ev fr.env o=some (.bool false)/\WC Q f b fr s K)
 | .block id b,fr,s,K=>WC Q f b fr s fun x=>K (x.block id)
 | .scope b,fr,s,K=>WC Q f b fr s K
 | .region ops,fr,s,K=>WV Q f ops fr s fun fr s=>K .normal fr s
 | .draw ops bs,fr,s,K=>WF Q f (.draw ops bs) fr s K
 | .loop b,fr,s,K=>W Q f (.loop b) fr s K
 | .rfun g ps a b,fr,s,K=>W Q f (.rfun g ps a b) fr s K
 | .bad,fr,s,K=>W Q f .bad fr s K
def WC.sound: ∀ {c:SC} {fr:Fr} {s:St} {K:Ex->Fr->St->Prop},WC Q f c fr s K->W Q f c fr s K
 | .skip,_,_,_,h=>fX h
 | .ret,_,_,_,h=>W.ret h
 | .exit _,_,_,_,h=>W.exit h
 | .seq a b,fr,s,K,h=>cU ((WC.sound (c:=a) h).mono fun x fr s j=>by
  cases x with
  |normal=>exact WC.sound (c:=b) j
  |exit i=>exact j
  |ret=>exact j)
 | .cond o a b,fr,s,K,h=>by
   rcases h with⟨u,q⟩|⟨u,q⟩
   exact cQ (t:=true) u (WC.sound (c:=a) q);exact cQ (t:=false) u (WC.sound (c:=b) q)
 | .block id b,fr,s,K,h=>W.block (WC.sound (c:=b) h)
 | .scope b,fr,s,K,h=>W.scope (WC.sound (c:=b) h)
 | .region ops,fr,s,K,h=>W.region (WV.run h)
 | .draw ops bs,fr,s,K,h=>WF.sound h
 | .loop _,_,_,_,h=>h
 | .rfun _ _ _ _,_,_,_,h=>h
 | .bad,_,_,_,h=>h
def Er(Q:aH)(f:FuncId)(a b:SC)(e:ax)(sz:Nat)(lc:Loc)(s:St)(K:Ex->Fr->St->Prop)(v:Option aa):Prop:=(v=some (.bool true)/\WC Q f a ⟨e,sz,lc⟩ s K)\/(v=some (.bool false)/\WC Q f b ⟨e,sz,lc⟩ s K)
section
variable{d:Tmp}{op:Op}{l:List aw}{e:ax}{sz:Nat}{lc:Loc}{s s1:St}{N C:Fr->St->Prop}{K:Ex->Fr->St->Prop}{v:aa}{t:Tmp}{c:Bool}{g:FuncId}{x y args:List aa}{sp:List aa->Option aa}{a b:SC}
def cG.of(j:aq Q g args s v s1)(q:d<sz)(h:C ⟨e.set d (some v),sz,lc⟩ s1):cG Q g args d e sz lc s C:=⟨v,s1,j,q,h⟩
def cG.ex{R:aa->St->Prop}(j: ∃v s1,aq Q g args s v s1/\R v s1)(q:d<sz)(h: ∀v s1,R v s1->C ⟨e.set d (some v),sz,lc⟩ s1):cG Q g args d e sz lc s C:=let⟨v,s1,h1,h2⟩:=j;⟨v,s1,h1,q,h v s1 h2⟩
def zN.of{n:Nat}(j:ji Q n args s v s1)(q:d<sz)(h:C ⟨e.set d (some v),sz,lc⟩ s1):zN Q n args d e sz lc s C:=⟨v,s1,j,q,h⟩
theorem aaE:Dy d e sz C (some (v,lc,s))=(d<sz/\C ⟨e.set d (some v),sz,lc⟩ s):=by
 apply propext;constructor;rintro⟨q,j,s',h,u⟩
 grind
 exact fun h=>⟨v,lc,s,rfl,h⟩
theorem aaD:Qr e sz C (some (v,lc,s))=C ⟨e,sz,lc⟩ s:=by
 apply propext;constructor;rintro⟨q,j,s',h,u⟩
 grind
 exact fun h=>⟨v,lc,s,rfl,h⟩
def R5:WV Q f [] fr s N=N fr s:=rfl
def R3:WV Q f (⟨some d,op,.aw⟩::l) ⟨e,sz,lc⟩ s N=Ce Q f op d e sz lc s (fun fr s=>WV Q f l fr s N) (ot op):=rfl
def R4:WV Q f (⟨none,op,.aw⟩::l) ⟨e,sz,lc⟩ s N=Qr e sz (fun fr s=>WV Q f l fr s N) (cM Q f ⟨none,op,.aw⟩ [] ⟨e,sz,lc⟩ s):=rfl
def R6{d:Option Tmp}:WV Q f (⟨d,op,.when t c⟩::l) ⟨e,sz,lc⟩ s N=ifV Q f op e sz lc s (fun fr s=>WV Q f l fr s N) d (kS (ac e t) c):=rfl
def Vn:ifV Q f op e sz lc s C (some d) true=Ce Q f op d e sz lc s C (ot op):=rfl
def Vm:ifV Q f op e sz lc s C (some d) false=(d<sz/\C ⟨e.set d (some gM),sz,lc⟩ s):=rfl
def TN:Ce Q f op d e sz lc s C false=Dy d e sz C (cM Q f ⟨some d,op,.aw⟩ [] ⟨e,sz,lc⟩ s):=rfl
def TM{x:Operand}:Ce Q f (.call ⟨.value x,xs,ts⟩) d e sz lc s C true=BX Q d e sz lc s C (ev e x) (evcs e xs.toList):=rfl
def SY:BX Q d e sz lc s C (some (.func (.func g) x y)) (some args)=yf Q d e sz lc s C g (x++(args++y)) (Q.spec g):=rfl
def SZ{n:Nat}:BX Q d e sz lc s C (some (.yld n)) (some args)=zN Q n args d e sz lc s C:=rfl
def SX:yf Q d e sz lc s C g args (some sp)=Dy d e sz C ((sp args).bind fun v=>some (v,lc,s)):=rfl
def SW:yf Q d e sz lc s C g args none=cG Q g args d e sz lc s C:=rfl
def Rh:WC Q f .skip ⟨e,sz,lc⟩ s K=K .normal ⟨e,sz,lc⟩ s:=rfl
def Rc:WC Q f .ret ⟨e,sz,lc⟩ s K=K .ret ⟨e,sz,lc⟩ s:=rfl
def Q9{id:Nat}:WC Q f (.exit id) ⟨e,sz,lc⟩ s K=K (.exit id) ⟨e,sz,lc⟩ s:=rfl
def Rg:WC Q f (.seq a b) ⟨e,sz,lc⟩ s K=WC Q f a ⟨e,sz,lc⟩ s (Ex.next K fun fr s=>WC Q f b fr s K):=rfl
def Q7:WC Q f (.cond o a b) ⟨e,sz,lc⟩ s K=Er Q f a b e sz lc s K (ev e o):=rfl
def Q6{id:Nat}:WC Q f (.block id b) ⟨e,sz,lc⟩ s K=WC Q f b ⟨e,sz,lc⟩ s fun x=>K (x.block id):=rfl
def Rf:WC Q f (.scope b) ⟨e,sz,lc⟩ s K=WC Q f b ⟨e,sz,lc⟩ s K:=rfl
def Rb:WC Q f (.region ops) ⟨e,sz,lc⟩ s K=WV Q f ops ⟨e,sz,lc⟩ s fun fr s=>K .normal fr s:=rfl
def Q8:WC Q f (.draw ops bs) ⟨e,sz,lc⟩ s K=WF Q f (.draw ops bs) ⟨e,sz,lc⟩ s K:=rfl
def Ra:WC Q f (.loop b) ⟨e,sz,lc⟩ s K=W Q f (.loop b) ⟨e,sz,lc⟩ s K:=rfl
def Re{p q:Code}:WC Q f (.rfun h ps p q) ⟨e,sz,lc⟩ s K=W Q f (.rfun h ps p q) ⟨e,sz,lc⟩ s K:=rfl
def TK:Er Q f a b e sz lc s K (some (.bool true))=WC Q f a ⟨e,sz,lc⟩ s K:=by simp[Er]
def TJ:Er Q f a b e sz lc s K (some (.bool false))=WC Q f b ⟨e,sz,lc⟩ s K:=by simp[Er]
def W.loopC(h:WC Q f b fr s (Ex.next K fun fr s=>W Q f (.loop b) fr s K)):W Q f (.loop b) fr s K:=W.loop1 h.sound
end
end
variable{as:List aa}{gd:SG}{ty:TypeId}
section
variable{Q:aH}{f:FuncId}
def yh:Op->Nat
 | .fieldAddr .. | .indexAddr .. | .nilCheck _| .move _| .assign _| .pick .. | .build .. | .field .. | .index .. | .binOp .. | .unOp .. | .convert .. | .makeFunc .. | .extract .. =>3
 | .load .. | .lookup .. | .slice .. =>0
 | .call {callee:=.value _, .. }=>0
 | .call {callee:=.builtin .len, .. }=>0
 | .call {callee:=.builtin .min, .. }=>0
 | .call {callee:=.builtin .max, .. }=>0
 |_=>1
def WX(Q:aH)(f:FuncId):Nat->List iH->List Nat->List aw->Fr->St->(Fr->St->Prop)->Prop
 |_,_,_,[],fr,s,N=>N fr s
 |_,_,[],_::_,_,_,_=>False
 |i,R,b::bs,o::l,fr,s,N=>
  (fU fr.env o.g=true/\yh o.op=3/\ ∃v lc j,(∀mk,cM Q f o mk fr s.top=some (v,lc,s.top))/\di fr o.dst v lc=some j/\r9 b (cu (Q.hint f) o.dst fr.env o.op) false R=true/\WX Q f (i+1) (⟨i,false,false,cu (Q.hint f) o.dst fr.env o.op⟩::R) bs l j s N)\/
  (fU fr.env o.g=true/\yh o.op=0/\ ∃v lc j,cM Q f o [] fr s.top=some (v,lc,s.top)/\di fr o.dst v lc=some j/\fo b (cu (Q.hint f) o.dst fr.env o.op) false R=true/\WX Q f (i+1) (⟨i,false,false,cu (Q.hint f) o.dst fr.env o.op⟩::R) bs l j s N)\/
  (fU fr.env o.g=true/\yh o.op=1/\ ∃v lc s1 j,cM Q f o [] fr s.top=some (v,lc,s1)/\di fr o.dst v lc=some j/\s1.ci=s.ci/\s.aL<=s1.aL/\fo b (cu (Q.hint f) o.dst fr.env o.op) true R=true/\WX Q f (i+1) (⟨i, !aQ s1.aL s.aL,true,cu (Q.hint f) o.dst fr.env o.op⟩::R) bs l j (s.rX s1) N)\/
  (fU fr.env o.g=true/\ ∃c g args v s1 j,o.op= .call c/\(∀b,c.callee≠ .builtin b)/\callee fr.env c=some (g,args)/\Q.spec g=none/\aq Q g args s.top v s1/\di fr o.dst v fr.loc=some j/\s1.ci=s.ci/\s.aL<=s1.aL/\fo b (cu (Q.hint f) o.dst fr.env o.op) true R=true/\WX Q f (i+1) (⟨i, !aQ s1.aL s.aL,true,cu (Q.hint f) o.dst fr.env o.op⟩::R) bs l j (s.rX s1) N)\/
  (fU fr.env o.g=false/\ ∃j,di fr o.dst gM fr.loc=some j/\WX Q f (i+1) R bs l j s N)\/
  (fU fr.env o.g=true/\ ∃c n args v s1 j,o.op= .call c/\yieldee fr.env c=some (n,args)/\ji Q n args s.top v s1/\di fr o.dst v fr.loc=some j/\s1.ci=s.ci/\s.aL<=s1.aL/\fo b (cu (Q.hint f) o.dst fr.env o.op) true R=true/\WX Q f (i+1) (⟨i, !aQ s1.aL s.aL,true,cu (Q.hint f) o.dst fr.env o.op⟩::R) bs l j (s.rX s1) N)\/
  (fU fr.env o.g=true/\ ∃c g args v j,o.op= .call c/\(∀b,c.callee≠ .builtin b)/\callee fr.env c=some (g,args)/\Q.spec g=none/\aq Q g args s.top v s.top/\di fr o.dst v fr.loc=some j/\fo b (cu (Q.hint f) o.dst fr.env o.op) false R=true/\WX Q f (i+1) (⟨i,false,false,cu (Q.hint f) o.dst fr.env o.op⟩::R) bs l j s N)
def S6{o:Op}(h:yh o=3\/yh o=0):isStore o=false:=by
 cases o<;>first|rfl|(rcases h with h|h<;>cases h;done)
def O8{a b:Nat}(h:(!aQ a b)=false):b=a:=by
 simp_all
def WX.run: ∀ {l:List aw} {i:Nat} {R:List iH} {bs:List Nat} {rs:List fZ} {fr:Fr} {s:St} {N:Fr->St->Prop},s.gt<=s.aL->Ab rs R->WX Q f i R bs l fr s N-> ∃j s',kX Q f bs rs i l fr s j s'/\N j s'
 | [],i,R,bs,rs,fr,s,N,_,_,h=>⟨fr,s,.nil,by cases bs<;>exact h⟩
 |o::l,i,R,[],rs,fr,s,N,_,_,h=>h.elim
 |o::l,i,R,b::bs,rs,fr,s,N,hm,hr,h=>by
  have U:bm s.aL s.aL=false:=by rw[jC];simp
  rcases h with⟨D,c,v,lc,F,S,E,A,G⟩|⟨D,c,v,lc,F,S,E,A,G⟩|⟨D,c,v,lc,s1,F,S,E,O,M,A,G⟩|⟨D,c,g,args,v,s1,F,J,I,u,_,q,E,O,M,A,G⟩|⟨D,F,E,V⟩|⟨D,c,n,args,v,s1,F,J,u,q,E,O,M,A,G⟩|⟨D,c,g,args,v,F,J,I,u,_,q,E,A,G⟩
  have H:(bm s.top.gt s.aL||isStore o.op)=false:=by rw[S6 (.inl c),kh];exact U
  obtain⟨j,s',w,B⟩:=WX.run (rs:=⟨i,s.aL,s.top.aL,cu (Q.hint f) o.dst fr.env o.op,bm s.top.gt s.aL||isStore o.op⟩::rs) hm (hr.cons rfl (fun _=>rfl) (fun _=>H) rfl) G;rw[<-kZ hm] at w;exact⟨j,s',.step D (v:=v) (lc:=lc) (s1:=s.top) (S _) (vq hr A fun _=>H) rfl E w,B⟩;have H:(bm s.top.gt s.aL||isStore o.op)=false:=by rw[S6 (.inr c),kh];exact U
  obtain⟨j,s',w,B⟩:=WX.run (rs:=⟨i,s.aL,s.top.aL,cu (Q.hint f) o.dst fr.env o.op,bm s.top.gt s.aL||isStore o.op⟩::rs) hm (hr.cons rfl (fun _=>rfl) (fun _=>H) rfl) G;rw[<-kZ hm] at w;refine⟨j,s',.step D (v:=v) (lc:=lc) (s1:=s.top) ?_ ?_ rfl E w,B⟩;show cM Q f o (jp b rs []) fr s.top=_;rw[zd hr A];exact S;exact vq hr (xt A) fun _=>H;obtain⟨j,s',w,B⟩:=WX.run (rs:=⟨i,s.aL,s1.aL,cu (Q.hint f) o.dst fr.env o.op,bm s1.gt s.aL||isStore o.op⟩::rs) (pW hm M) (hr.cons rfl (fun h=>O8 h) (fun h=>by cases h) rfl) G;refine⟨j,s',.step D (v:=v) (lc:=lc) (s1:=s1) ?_ ?_ O E w,B⟩;show cM Q f o (jp b rs []) fr s.top=_;rw[zd hr A];exact S;exact vq hr (xt A) fun h=>by cases h
  obtain⟨j,s',w,B⟩:=WX.run (rs:=⟨i,s.aL,s1.aL,cu (Q.hint f) o.dst fr.env o.op,bm s1.gt s.aL||isStore o.op⟩::rs) (pW hm M) (hr.cons rfl (fun h=>O8 h) (fun h=>by cases h) rfl) G;refine⟨j,s',.call D J I u (v:=v) (s1:=s1) ?_ ?_ O E w,B⟩;show Lq Q g args (jp b rs []) s.top v s1;rw[zd hr A];exact q;exact vq hr (xt A) fun h=>by cases h
  obtain⟨j,s',w,B⟩:=WX.run (rs:=rs) hm (fun r T=>hr r T) V;exact⟨j,s',.skip D E w,B⟩;obtain⟨j,s',w,B⟩:=WX.run (rs:=⟨i,s.aL,s1.aL,cu (Q.hint f) o.dst fr.env o.op,bm s1.gt s.aL||isStore o.op⟩::rs) (pW hm M) (hr.cons rfl (fun h=>O8 h) (fun h=>by cases h) rfl) G;refine⟨j,s',.yld D J u (v:=v) (s1:=s1) ?_ ?_ O E w,B⟩;show Rn Q n args (jp b rs []) s.top v s1;rw[zd hr A];exact q;exact vq hr (xt A) fun h=>by cases h
  have H:(bm s.top.gt s.aL||isStore o.op)=false:=by
   rw[J];show(bm s.aL s.aL||false)=false;rw[U];rfl
  obtain⟨j,s',w,B⟩:=WX.run (rs:=⟨i,s.aL,s.top.aL,cu (Q.hint f) o.dst fr.env o.op,bm s.top.gt s.aL||isStore o.op⟩::rs) hm (hr.cons rfl (fun _=>rfl) (fun _=>H) rfl) G;rw[<-kZ hm] at w;refine⟨j,s',.call D J I u (v:=v) (s1:=s.top) ?_ ?_ rfl E w,B⟩;show Lq Q g args (jp b rs []) s.top v s.top;rw[zd hr A];exact q;exact vq hr (xt A) fun _=>H
def W.drawX{bs:List Nat}{s:St}{K:Ex->Fr->St->Prop}(j:s.gt<=s.aL)(h:WX Q f 0 [] bs ops fr s fun fr s=>K .normal fr s):W Q f (.draw ops bs) fr s K:=
 let⟨_,_,h1,h2⟩:=WX.run (rs:=[]) j (fun _ h=>by cases h) h
 W.drawR h1 h2
def kY(Q:aH)(f g:FuncId)(args:List aa)(ft:dt)(i:Nat)(R:List iH)(b:Nat)(bs:List Nat)(d:Tmp)(e:ax)(sz:Nat)(lc:Loc)(s:St)(l:List aw)(N:Fr->St->Prop):Prop:=
 (∃v s1,aq Q g args s.top v s1/\d<sz/\s1.ci=s.ci/\s.aL<=s1.aL/\fo b ft true R=true/\WX Q f (i+1) (⟨i, !aQ s1.aL s.aL,true,ft⟩::R) bs l ⟨e.set d (some v),sz,lc⟩ (s.rX s1) N)\/
 ∃v,aq Q g args s.top v s.top/\d<sz/\fo b ft false R=true/\WX Q f (i+1) (⟨i,false,false,ft⟩::R) bs l ⟨e.set d (some v),sz,lc⟩ s N
def kY.of{g:FuncId}{args:List aa}{ft:dt}{i:Nat}{R:List iH}{b:Nat}{bs:List Nat}{d:Tmp}{e:ax}{sz:Nat}{lc:Loc}{s s1:St}{l:List aw}{N:Fr->St->Prop}{v:aa}(j:aq Q g args s.top v s1)(A:s1.ci=s.ci)(u:s.aL<=s1.aL)(w:d<sz)(q:fo b ft true R=true)(h:WX Q f (i+1) (⟨i, !aQ s1.aL s.aL,true,ft⟩::R) bs l ⟨e.set d (some v),sz,lc⟩ (s.rX s1) N):kY Q f g args ft i R b bs d e sz lc s l N:=.inl ⟨v,s1,j,w,A,u,q,h⟩
def kY.quiet{g:FuncId}{args:List aa}{ft:dt}{i:Nat}{R:List iH}{b:Nat}{bs:List Nat}{d:Tmp}{e:ax}{sz:Nat}{lc:Loc}{s:St}{l:List aw}{N:Fr->St->Prop}{v:aa}(j:aq Q g args s.top v s.top)(u:d<sz)(q:fo b ft false R=true)(h:WX Q f (i+1) (⟨i,false,false,ft⟩::R) bs l ⟨e.set d (some v),sz,lc⟩ s N):kY Q f g args ft i R b bs d e sz lc s l N:=.inr ⟨v,j,u,q,h⟩
def kY.calm{g:FuncId}{args:List aa}{ft:dt}{i:Nat}{R:List iH}{b:Nat}{bs:List Nat}{d:Tmp}{e:ax}{sz:Nat}{lc:Loc}{s:St}{l:List aw}{N:Fr->St->Prop}{v:aa}(u:s.gt<=s.aL)(j:aq Q g args s.top v s.top)(w:d<sz)(q:fo b ft true R=true)(h:WX Q f (i+1) (⟨i,false,true,ft⟩::R) bs l ⟨e.set d (some v),sz,lc⟩ s N):kY Q f g args ft i R b bs d e sz lc s l N:=
 kY.of j rfl (Nat.le_refl _) w q (by
  have A:(!aQ s.top.aL s.aL)=false:=by show(!aQ s.aL s.aL)=false;rw[bD];simp
  rw[A,kZ u];exact h)
def KW(Q:aH)(f n:Nat)(args:List aa)(ft:dt)(i:Nat)(R:List iH)(b:Nat)(bs:List Nat)(d:Tmp)(e:ax)(sz:Nat)(lc:Loc)(s:St)(l:List aw)(N:Fr->St->Prop):Prop:=
 ∃v s1,ji Q n args s.top v s1/\d<sz/\s1.ci=s.ci/\s.aL<=s1.aL/\fo b ft true R=true/\WX Q f (i+1) (⟨i, !aQ s1.aL s.aL,true,ft⟩::R) bs l ⟨e.set d (some v),sz,lc⟩ (s.rX s1) N
def KW.of{n:Nat}{args:List aa}{ft:dt}{i:Nat}{R:List iH}{b:Nat}{bs:List Nat}{d:Tmp}{e:ax}{sz:Nat}{lc:Loc}{s s1:St}{l:List aw}{N:Fr->St->Prop}{v:aa}(j:ji Q n args s.top v s1)(A:s1.ci=s.ci)(u:s.aL<=s1.aL)(w:d<sz)(q:fo b ft true R=true)(h:WX Q f (i+1) (⟨i, !aQ s1.aL s.aL,true,ft⟩::R) bs l ⟨e.set d (some v),sz,lc⟩ (s.rX s1) N):KW Q f n args ft i R b bs d e sz lc s l N:=⟨v,s1,j,w,A,u,q,h⟩
def H7(Q:aH)(f:FuncId)(c:Nat)(ft:dt)(i:Nat)(R:List iH)(b:Nat)(bs:List Nat)(d:Option Tmp)(e:ax)(sz:Nat)(s:St)(l:List aw)(N:Fr->St->Prop)(p:aK->Option (aa×Loc×St)):Prop:=
 (c=3/\ ∃v lc j,(∀mk,p mk=some (v,lc,s.top))/\di ⟨e,sz,lc⟩ d v lc=some j/\r9 b ft false R=true/\WX Q f (i+1) (⟨i,false,false,ft⟩::R) bs l j s N)\/
 (c=0/\ ∃v lc j,p []=some (v,lc,s.top)/\di ⟨e,sz,lc⟩ d v lc=some j/\fo b ft false R=true/\WX Q f (i+1) (⟨i,false,false,ft⟩::R) bs l j s N)\/
 (c=1/\ ∃v lc s1 j,p []=some (v,lc,s1)/\di ⟨e,sz,lc⟩ d v lc=some j/\s1.ci=s.ci/\s.aL<=s1.aL/\fo b ft true R=true/\WX Q f (i+1) (⟨i, !aQ s1.aL s.aL,true,ft⟩::R) bs l j (s.rX s1) N)
def Qs(Q:aH)(f:FuncId)(ft:dt)(i:Nat)(R:List iH)(b:Nat)(bs:List Nat)(d:Option Tmp)(e:ax)(sz:Nat)(s:St)(l:List aw)(N:Fr->St->Prop)(x:Option (aa×Loc×St)):Prop:=
 ∃v lc j,x=some (v,lc,s.top)/\di ⟨e,sz,lc⟩ d v lc=some j/\fo b ft false R=true/\WX Q f (i+1) (⟨i,false,false,ft⟩::R) bs l j s N
def Dz(Q:aH)(f:FuncId)(ft:dt)(i:Nat)(R:List iH)(b:Nat)(bs:List Nat)(d:Option Tmp)(e:ax)(sz:Nat)(s:St)(l:List aw)(N:Fr->St->Prop)(x:Option (aa×Loc×St)):Prop:=
 ∃v lc s1 j,x=some (v,lc,s1)/\di ⟨e,sz,lc⟩ d v lc=some j/\s1.ci=s.ci/\s.aL<=s1.aL/\fo b ft true R=true/\WX Q f (i+1) (⟨i, !aQ s1.aL s.aL,true,ft⟩::R) bs l j (s.rX s1) N
def SV(Q:aH)(f:FuncId)(ft:dt)(i:Nat)(R:List iH)(b:Nat)(bs:List Nat)(d:Tmp)(e:ax)(sz:Nat)(lc:Loc)(s:St)(l:List aw)(N:Fr->St->Prop)(g:FuncId)(args:List aa):Option (List aa->Option aa)->Prop
 |some sp=>Qs Q f ft i R b bs (some d) e sz s l N ((sp args).bind fun v=>some (v,lc,s.top))
 |none=>kY Q f g args ft i R b bs d e sz lc s l N
def yg(Q:aH)(f:FuncId)(ft:dt)(i:Nat)(R:List iH)(b:Nat)(bs:List Nat)(d:Tmp)(e:ax)(sz:Nat)(lc:Loc)(s:St)(l:List aw)(N:Fr->St->Prop):Option aa->Option (List aa)->Prop
 |some (.func (.func g) x y),some args=>SV Q f ft i R b bs d e sz lc s l N g (x++(args++y)) (Q.spec g)
 |some (.yld n),some args=>KW Q f n args ft i R b bs d e sz lc s l N
 |_,_=>False
def uZ(Q:aH)(f:FuncId)(op:Op)(i:Nat)(R:List iH)(b:Nat)(bs:List Nat)(d:Tmp)(e:ax)(sz:Nat)(lc:Loc)(s:St)(l:List aw)(N:Fr->St->Prop):Bool->Prop
 |false=>H7 Q f (yh op) (cu (Q.hint f) (some d) e op) i R b bs (some d) e sz s l N (fun mk=>cM Q f ⟨some d,op,.aw⟩ mk ⟨e,sz,lc⟩ s.top)
 |true=>match op with
  | .call {callee:=.value x,args:=xs, .. }=>yg Q f (cu (Q.hint f) (some d) e op) i R b bs d e sz lc s l N (ev e x) (evcs e xs.toList)
  |_=>False
def asQ(Q:aH)(f:FuncId)(op:Op)(i:Nat)(R:List iH)(b:Nat)(bs:List Nat)(d:Tmp)(e:ax)(sz:Nat)(lc:Loc)(s:St)(l:List aw)(N:Fr->St->Prop):Bool->Prop
 |true=>uZ Q f op i R b bs d e sz lc s l N (ot op)
 |false=>d<sz/\WX Q f (i+1) R bs l ⟨e.set d (some gM),sz,lc⟩ s N
section
variable{i b c:Nat}{R:List iH}{ft:dt}{bs:List Nat}{d:Tmp}{op:Op}{l:List aw}{e:ax}{sz:Nat}{lc:Loc}{s s1:St}{N:Fr->St->Prop}{v:aa}{t:Tmp}{tb:Bool}{x y args:List aa}{sp:List aa->Option aa}{g:FuncId}
theorem uZ.to(F:fU e gd=true)(h:uZ Q f op i R b bs d e sz lc s l N (ot op)):WX Q f i R (b::bs) (⟨some d,op,gd⟩::l) ⟨e,sz,lc⟩ s N:=by
 have put: ∀ {v j q},di ⟨e,sz,j⟩ (some d) v j=some q->di ⟨e,sz,lc⟩ (some d) v j=some q:=fun h=>h;cases hc:ot op with
 |false=>
  rw[hc] at h;rcases h with⟨E,v,j,q,D,A,B⟩|⟨E,v,j,q,D,A,B⟩|⟨E,v,j,s1,q,D,A,B⟩
  exact .inl ⟨F,E,v,j,q,D,put A,B⟩;exact .inr (.inl ⟨F,E,v,j,q,D,put A,B⟩);exact .inr (.inr (.inl ⟨F,E,v,j,s1,q,D,put A,B⟩))
 |true=>
  rw[hc] at h;unfold ot at hc;split at hc;rename_i _ x xs ts;have h:yg Q f (cu (Q.hint f) (some d) e (.call ⟨.value x,xs,ts⟩)) i R b bs d e sz lc s l N (ev e x) (evcs e xs.toList):=h;unfold yg at h;split at h;rename_i g a O args E D;have w:callee e ⟨.value x,xs,ts⟩=some (g,a++(args++O)):=by simp only[callee,E,D,au]
  unfold SV at h;split at h;rename_i sp G;obtain⟨v,j,q,A,B,H⟩:=h;simp only[ak,aJ,bI] at A;obtain⟨u,I,rfl,rfl,_⟩:=A;refine .inr (.inl ⟨F,rfl,u,lc,q,?_,B,H⟩);show((callee e ⟨.value x,xs,ts⟩).bind fun g=>(Q.spec g.1).bind fun sp=>(sp g.2).bind fun v=>some (v,lc,s.top))=_
  grind
  rename_i G;rcases h with⟨v,s1,A,B,H,I,M,J⟩|⟨v,A,B,H,I⟩
  exact .inr (.inr (.inr (.inl ⟨F,_,g,_,v,s1,_,rfl,by simp,w,G,A,gK.2 ⟨B,rfl⟩,H,I,M,J⟩)));exact .inr (.inr (.inr (.inr (.inr (.inr ⟨F,_,g,_,v,_,rfl,by simp,w,G,A,gK.2 ⟨B,rfl⟩,H,I⟩)))));rename_i n args E D;obtain⟨v,s1,A,B,H,I,M,J⟩:=h;have w:yieldee e ⟨.value x,xs,ts⟩=some (n,args):=by simp only[yieldee,E,D,au]
  exact .inr (.inr (.inr (.inr (.inr (.inl ⟨F,_,n,args,v,s1,_,rfl,w,A,gK.2 ⟨B,rfl⟩,H,I,M,J⟩)))));exact h.elim;cases hc
theorem L7{e:ax}{x:Operand}{g:FuncId}(h:callee e ⟨.value x,xs,ts⟩=some (g,as)): ∃a b args,ev e x=some (.func (.func g) a b)/\evcs e xs.toList=some args/\as=a++(args++b):=by
 grind [callee,ak]
theorem as2{e:ax}{x:Operand}{n:Nat}(h:yieldee e ⟨.value x,xs,ts⟩=some (n,as)):ev e x=some (.yld n)/\evcs e xs.toList=some as:=by
 grind [yieldee,ak]
theorem uZ.of(Y:fU e gd=true)(h:WX Q f i R (b::bs) (⟨some d,op,gd⟩::l) ⟨e,sz,lc⟩ s N):uZ Q f op i R b bs d e sz lc s l N (ot op):=by
 cases hc:ot op with
 |false=>
  rcases h with⟨_,j,v,B,q,A,w,D⟩|⟨_,j,v,B,q,A,w,D⟩|⟨_,j,v,B,s1,q,A,w,D⟩|⟨_,c,g,args,v,s1,q,j,A,w,_⟩|⟨j,_⟩|⟨_,c,n,args,v,s1,q,j,w,_⟩|⟨_,c,g,args,v,q,j,A,w,_⟩
  exact .inl ⟨j,v,B,q,A,w,D⟩;exact .inr (.inl ⟨j,v,B,q,A,w,D⟩);exact .inr (.inr ⟨j,v,B,s1,q,A,w,D⟩);have j:op= .call c:=j;subst j;obtain⟨O,as,ts⟩:=c;cases O with
  |builtin x=>exact absurd rfl (A x)
  |value x=>cases hc
  |invoke x y=>cases w
  grind
  have j:op= .call c:=j;subst j;obtain⟨O,as,ts⟩:=c;cases O with
  |builtin x=>cases w
  |value x=>cases hc
  |invoke x y=>cases w
  have j:op= .call c:=j;subst j;obtain⟨O,as,ts⟩:=c;cases O with
  |builtin x=>exact absurd rfl (A x)
  |value x=>cases hc
  |invoke x y=>cases w
 |true=>
  unfold ot at hc;split at hc;rename_i _ x xs ts;show yg Q f (cu (Q.hint f) (some d) e (.call ⟨.value x,xs,ts⟩)) i R b bs d e sz lc s l N (ev e x) (evcs e xs.toList);rcases h with⟨_,j,_⟩|⟨_,j,v,B,q,A,w,D⟩|⟨_,j,_⟩|⟨_,c,g,args,v,s1,q,j,A,w,D,M,J,I⟩|⟨j,_⟩|⟨_,c,n,args,v,s1,q,j,w,M,J,I⟩|⟨_,c,g,args,v,q,j,A,w,D,M,J,I⟩
  cases j;have A:((callee e ⟨.value x,xs,ts⟩).bind fun g=>(Q.spec g.1).bind fun sp=>(sp g.2).bind fun v=>some (v,lc,s.top))=some (v,B,s.top):=A;simp only[ak,aJ,bI] at A;obtain⟨⟨g,as⟩,V,sp,S,u,U,rfl,rfl,_⟩:=A;obtain⟨a,T,args,F,E,rfl⟩:=L7 V;simp only[F,E,yg];have S:Q.spec g=some sp:=S;rw[S];exact⟨u,lc,q,by simp only[U,au],w,D⟩;cases j;have j:Op.call ⟨.value x,xs,ts⟩= .call c:=j;injection j with j
  subst j;obtain⟨a,T,G,F,E,rfl⟩:=L7 w;simp only[F,E,yg];rw[D];obtain⟨H,rfl⟩:=gK.1 J;exact .inl ⟨v,s1,M,H,I⟩
  grind
  have j:Op.call ⟨.value x,xs,ts⟩= .call c:=j;injection j with j
  subst j;obtain⟨F,E⟩:=as2 w;simp only[F,E,yg];obtain⟨H,rfl⟩:=gK.1 J;exact⟨v,s1,M,H,I⟩;have j:Op.call ⟨.value x,xs,ts⟩= .call c:=j;injection j with j
  subst j;obtain⟨a,T,G,F,E,rfl⟩:=L7 w;simp only[F,E,yg];rw[D];obtain⟨H,rfl⟩:=gK.1 J;exact .inr ⟨v,M,H,I⟩;cases hc
def ata:WX Q f i R bs [] fr s N=N fr s:=by cases bs<;>rfl
def as9:WX Q f i R (b::bs) (⟨some d,op,.aw⟩::l) ⟨e,sz,lc⟩ s N=uZ Q f op i R b bs d e sz lc s l N (ot op):=propext ⟨uZ.of rfl,uZ.to rfl⟩
theorem atd:WX Q f i R (b::bs) (⟨some d,op,.when t tb⟩::l) ⟨e,sz,lc⟩ s N=asQ Q f op i R b bs d e sz lc s l N (kS (ac e t) tb):=by
 apply propext;have j:fU e (.when t tb)=kS (ac e t) tb:=qo ..;cases hv:kS (ac e t) tb with
 |true=>
  rw[hv] at j;exact⟨uZ.of j,uZ.to j⟩
 |false=>
  rw[hv] at j;constructor
  ·rintro(⟨h,_⟩|⟨h,_⟩|⟨h,_⟩|⟨h,_⟩|⟨_,A,w,u⟩|⟨h,_⟩|⟨h,_⟩)
   grind
   grind
   grind
   grind
   obtain⟨q,rfl⟩:=gK.1 w;exact⟨q,u⟩
   all_goals grind
  exact fun h=>.inr (.inr (.inr (.inr (.inl ⟨j,_,gK.2 ⟨h.1,rfl⟩,h.2⟩))))
theorem R7(D:yh op=1):WX Q f i R (b::bs) (⟨none,op,.aw⟩::l) ⟨e,sz,lc⟩ s N=Dz Q f (cu (Q.hint f) none e op) i R b bs none e sz s l N (cM Q f ⟨none,op,.aw⟩ [] ⟨e,sz,lc⟩ s.top):=by
 apply propext;constructor;intro h;rcases h with⟨_,j,_⟩|⟨_,j,_⟩|⟨_,j,v,w,s1,q,A,u,E⟩|⟨_,c,g,args,v,s1,q,j,A,u,_⟩|⟨j,_⟩|⟨_,c,n,args,v,s1,q,j,u,_⟩|⟨_,c,g,args,v,q,j,A,u,_⟩
 grind
 grind
 exact⟨v,w,s1,q,A,u,E⟩;have j:op= .call c:=j;subst j;obtain⟨B,as,ts⟩:=c;cases B with
 |builtin x=>exact absurd rfl (A x)
 |value x=>cases D
 |invoke x y=>cases u
 cases j;have j:op= .call c:=j;subst j;obtain⟨B,as,ts⟩:=c;cases B with
 |builtin x=>cases u
 |value x=>cases D
 |invoke x y=>cases u
 have j:op= .call c:=j;subst j;obtain⟨B,as,ts⟩:=c;cases B with
 |builtin x=>exact absurd rfl (A x)
 |value x=>cases D
 |invoke x y=>cases u
 rintro⟨v,w,s1,q,A,u,E⟩;exact .inr (.inr (.inl ⟨rfl,D,v,w,s1,q,A,u,E⟩))
def atb{a x:Operand}:WX Q f i R (b::bs) (⟨none,.store ty a x,.aw⟩::l) ⟨e,sz,lc⟩ s N=Dz Q f (cu (Q.hint f) none e (.store ty a x)) i R b bs none e sz s l N (cM Q f ⟨none,.store ty a x,.aw⟩ [] ⟨e,sz,lc⟩ s.top):=R7 rfl
def atc{m k x:Operand}:WX Q f i R (b::bs) (⟨none,.mapUpdate ty m k x,.aw⟩::l) ⟨e,sz,lc⟩ s N=Dz Q f (cu (Q.hint f) none e (.mapUpdate ty m k x)) i R b bs none e sz s l N (cM Q f ⟨none,.mapUpdate ty m k x,.aw⟩ [] ⟨e,sz,lc⟩ s.top):=R7 rfl
def ayk:asQ Q f op i R b bs d e sz lc s l N true=uZ Q f op i R b bs d e sz lc s l N (ot op):=rfl
def ayj:asQ Q f op i R b bs d e sz lc s l N false=(d<sz/\WX Q f (i+1) R bs l ⟨e.set d (some gM),sz,lc⟩ s N):=rfl
def axv:uZ Q f op i R b bs d e sz lc s l N false=H7 Q f (yh op) (cu (Q.hint f) (some d) e op) i R b bs (some d) e sz s l N (fun mk=>cM Q f ⟨some d,op,.aw⟩ mk ⟨e,sz,lc⟩ s.top):=rfl
def axu{x:Operand}:uZ Q f (.call ⟨.value x,xs,ts⟩) i R b bs d e sz lc s l N true=yg Q f (cu (Q.hint f) (some d) e (.call ⟨.value x,xs,ts⟩)) i R b bs d e sz lc s l N (ev e x) (evcs e xs.toList):=rfl
def axd:yg Q f ft i R b bs d e sz lc s l N (some (.func (.func g) x y)) (some args)=SV Q f ft i R b bs d e sz lc s l N g (x++(args++y)) (Q.spec g):=rfl
def axe{n:Nat}:yg Q f ft i R b bs d e sz lc s l N (some (.yld n)) (some args)=KW Q f n args ft i R b bs d e sz lc s l N:=rfl
def axc:SV Q f ft i R b bs d e sz lc s l N g args (some sp)=Qs Q f ft i R b bs (some d) e sz s l N ((sp args).bind fun v=>some (v,lc,s.top)):=rfl
def axb:SV Q f ft i R b bs d e sz lc s l N g args none=kY Q f g args ft i R b bs d e sz lc s l N:=rfl
def atN:H7 Q f 3 ft i R b bs (some d) e sz s l N (fun _=>some (v,lc,s.top))=(d<sz/\r9 b ft false R=true/\WX Q f (i+1) (⟨i,false,false,ft⟩::R) bs l ⟨e.set d (some v),sz,lc⟩ s N):=by
 apply propext;constructor;rintro(⟨_,D,w,B,h,u,q,j⟩|⟨h,_⟩|⟨h,_⟩);have h:=h [];simp only[aJ,bI,aT] at h;obtain⟨rfl,rfl⟩:=h;obtain⟨A,rfl⟩:=gK.1 u;exact⟨A,q,j⟩;cases h;cases h;rintro⟨u,q,j⟩;exact .inl ⟨rfl,v,lc,_,fun _=>rfl,gK.2 ⟨u,rfl⟩,q,j⟩
def atL{d:Option Tmp}:H7 Q f 0 ft i R b bs d e sz s l N p=Qs Q f ft i R b bs d e sz s l N (p []):=by
 apply propext;constructor;rintro(⟨h,_⟩|⟨_,h⟩|⟨h,_⟩);cases h;exact h;cases h;exact fun h=>.inr (.inl ⟨rfl,h⟩)
def atM{d:Option Tmp}:H7 Q f 1 ft i R b bs d e sz s l N p=Dz Q f ft i R b bs d e sz s l N (p []):=by
 apply propext;constructor;rintro(⟨h,_⟩|⟨h,_⟩|⟨_,h⟩);cases h;cases h;exact h;exact fun h=>.inr (.inr ⟨rfl,h⟩)
def aws:Qs Q f ft i R b bs (some d) e sz s l N (some (v,lc,s.top))=(d<sz/\fo b ft false R=true/\WX Q f (i+1) (⟨i,false,false,ft⟩::R) bs l ⟨e.set d (some v),sz,lc⟩ s N):=by
 apply propext;constructor;rintro⟨E,u,D,h,q,j,A⟩;simp only[aJ,bI,aT] at h;obtain⟨rfl,rfl⟩:=h;obtain⟨w,rfl⟩:=gK.1 q;exact⟨w,j,A⟩;rintro⟨q,B,j⟩;exact⟨v,lc,_,rfl,gK.2 ⟨q,rfl⟩,B,j⟩
def awu:Dz Q f ft i R b bs (some d) e sz s l N (some (v,lc,s1))=(s1.ci=s.ci/\d<sz/\s.aL<=s1.aL/\fo b ft true R=true/\WX Q f (i+1) (⟨i, !aQ s1.aL s.aL,true,ft⟩::R) bs l ⟨e.set d (some v),sz,lc⟩ (s.rX s1) N):=by
 apply propext;constructor;rintro⟨F,B,s',E,h,A,w,u,q,j⟩;simp only[aJ,bI] at h;obtain⟨rfl,rfl,rfl⟩:=h;obtain⟨D,rfl⟩:=gK.1 A;exact⟨w,D,u,q,j⟩;rintro⟨A,w,u,q,j⟩;exact⟨v,lc,_,_,rfl,gK.2 ⟨w,rfl⟩,A,u,q,j⟩
def awt:Dz Q f ft i R b bs none e sz s l N (some (v,lc,s1))=(s1.ci=s.ci/\s.aL<=s1.aL/\fo b ft true R=true/\WX Q f (i+1) (⟨i, !aQ s1.aL s.aL,true,ft⟩::R) bs l ⟨e,sz,lc⟩ (s.rX s1) N):=by
 apply propext;constructor;rintro⟨E,B,s',A,h,j,D,w,u,q⟩;simp only[aJ,bI] at h;obtain⟨rfl,rfl,rfl⟩:=h;have j:A=⟨e,sz,lc⟩:=(sI j).symm;subst j;exact⟨D,w,u,q⟩;rintro⟨j,w,u,q⟩;exact⟨v,lc,_,⟨e,sz,lc⟩,rfl,rfl,j,w,u,q⟩
end
def ayy(t:TypeId)(a:Operand):yh (.load t a)=0:=rfl
def ayG(t:TypeId)(a x:Operand):yh (.store t a x)=1:=rfl
def aym(t:TypeId):yh (.alloc t)=1:=rfl
def ayq(t:TypeId)(x:Operand):yh (.box t x)=1:=rfl
def ayu(t:TypeId)(a:Operand)(i:Nat):yh (.fieldAddr t a i)=3:=rfl
def ayw(t:TypeId)(a i:Operand):yh (.indexAddr t a i)=3:=rfl
def ayv(t:TypeId)(a i:Operand):yh (.index t a i)=3:=rfl
def ayC(a:Operand):yh (.move a)=3:=rfl
def ayo(a:Operand):yh (.assign a)=3:=rfl
def ayE(a b c:Operand):yh (.pick a b c)=3:=rfl
def ayr(t:TypeId)(ps:Array (Nat×Operand)):yh (.build t ps)=3:=rfl
def ays(t:TypeId)(n:Nat)(ps:Array (Nat×Operand)):yh (.buildSlice t n ps)=1:=rfl
def ayp(o:BinOp)(t u:TypeId)(x y:Operand):yh (.binOp o t x y u)=3:=rfl
def ayH(o:UnOp)(t:TypeId)(x:Operand):yh (.unOp o t x)=3:=rfl
def ayt(a:Operand)(i:Nat):yh (.extract a i)=3:=rfl
def ayF(t:TypeId)(x:Operand)(a b c:Option Operand):yh (.slice t x a b c)=0:=rfl
def ayz(t:TypeId)(x i:Operand)(b:Bool):yh (.lookup t x i b)=0:=rfl
def ayn(as:Array Operand)(ts:Array TypeId):yh (.call ⟨.builtin .append,as,ts⟩)=1:=rfl
def ayx(as:Array Operand)(ts:Array TypeId):yh (.call ⟨.builtin .len,as,ts⟩)=0:=rfl
def ayB(as:Array Operand)(ts:Array TypeId):yh (.call ⟨.builtin .min,as,ts⟩)=0:=rfl
def ayA(as:Array Operand)(ts:Array TypeId):yh (.call ⟨.builtin .max,as,ts⟩)=0:=rfl
def axU(h:Tmp->Nat)(d:Option Tmp)(e:ax)(t:TypeId)(x i:Operand)(b:Bool):cu h d e (.lookup t x i b)= .all:=rfl
def axZ(h:Tmp->Nat)(d:Option Tmp)(e:ax)(a b c:Operand):cu h d e (.pick a b c)= .none:=rfl
def axR(h:Tmp->Nat)(d:Option Tmp)(e:ax)(t:TypeId)(x i:Operand):cu h d e (.index t x i)= .none:=rfl
def ax2(h:Tmp->Nat)(d:Option Tmp)(e:ax)(t:TypeId)(m k x:Operand):cu h d e (.mapUpdate t m k x)= .all:=rfl
def axW(h:Tmp->Nat)(d:Option Tmp)(e:ax)(as:Array Operand)(ts:Array TypeId):cu h d e (.call ⟨.builtin .min,as,ts⟩)= .none:=rfl
def axV(h:Tmp->Nat)(d:Option Tmp)(e:ax)(as:Array Operand)(ts:Array TypeId):cu h d e (.call ⟨.builtin .max,as,ts⟩)= .none:=rfl
def goL:aa->dt
 | .map _=>.all
 |_=>.none
def atO(h:Tmp->Nat)(d:Option Tmp)(e:ax)(t:Tmp)(ts:Array TypeId):cu h d e (.call ⟨.builtin .len,#[.tmp t],ts⟩)=goL (ac e t):=by
 show(match ev e (.tmp t) with|some (.map _)=>dt.all|_=>.none)=_;rw[aA];cases ac e t<;>rfl
def goS:aa->dt
 | .ptr n _=>.obj n
 |_=>.none
def atQ(h:Tmp->Nat)(d:Option Tmp)(e:ax)(ty:TypeId)(t:Tmp)(a b c:Option Operand):cu h d e (.slice ty (.tmp t) a b c)=goS (ac e t):=by
 show(match ev e (.tmp t) with|some (.ptr n _)=>dt.obj n|_=>.none)=_;rw[aA];cases ac e t<;>rfl
def axG(n o:Nat):goS (.ptr n o)= .obj n:=rfl
def axy(n o:Nat):goA (.ptr n o)= .obj n:=rfl
def axE(n o:Nat):M4 (.ptr n o)= .none:=rfl
def axB(a b c d e:Nat):M4 (.arr a b c d e)= .none:=rfl
def axC(n:Nat)(xs:List aa)(r:oW):M4 (.list n xs r)= .none:=rfl
def ax7(t n:Nat):aqs (.loc t) (.obj n)=false:=rfl
def aya(t n:Nat):aqs (.obj n) (.loc t)=false:=rfl
def ayI(t:TypeId)(m k x:Operand):yh (.mapUpdate t m k x)=1:=rfl
def ax9(s:St)(o:aR):(s.new o).aL=s.aL+1:=rfl
def ayg(s:St)(n:Nat)(o:Option aR):(s.put n o).aL=s.aL:=rfl
def ax8(s:St)(o:aR):(s.new o).ci=s.ci:=rfl
def ayf(s:St)(n:Nat)(o:Option aR):(s.put n o).ci=s.ci:=rfl
def atm(n:Nat):(n+1==n)=false:=by simp
def avD(n:Nat):(n<=n+1)=True:=eq_true (Nat.le_succ n)
def WE(Q:aH)(f:FuncId):SC->Fr->St->(Ex->Fr->St->Prop)->Prop
 | .skip,fr,s,K=>K .normal fr s
 | .ret,fr,s,K=>K .ret fr s
 | .exit id,fr,s,K=>K (.exit id) fr s
 | .seq a b,fr,s,K=>WE Q f a fr s (Ex.next K fun fr s=>WE Q f b fr s K)
 | .cond o a b,fr,s,K=>(ev fr.env o=some (.bool true)/\WE Q f a fr s K)\/(ev fr.env o=some (.bool false)/\WE Q f b fr s K)
 | .block id b,fr,s,K=>WE Q f b fr s fun x=>K (x.block id)
 | .scope b,fr,s,K=>WE Q f b fr s K
 | .region ops,fr,s,K=>WV Q f ops fr s fun fr s=>K .normal fr s
 | .draw ops bs,fr,s,K=>W Q f (.draw ops bs) fr s K
 | .loop b,fr,s,K=>W Q f (.loop b) fr s K
 | .rfun g ps a b,fr,s,K=>W Q f (.rfun g ps a b) fr s K
 | .bad,fr,s,K=>W Q f .bad fr s K
def WE.sound: ∀ {c:SC} {fr:Fr} {s:St} {K:Ex->Fr->St->Prop},WE Q f c fr s K->W Q f c fr s K
 | .skip,_,_,_,h=>fX h
 | .ret,_,_,_,h=>W.ret h
 | .exit _,_,_,_,h=>W.exit h
 | .seq a b,fr,s,K,h=>cU ((WE.sound (c:=a) h).mono fun x fr s j=>by
  cases x with
  |normal=>exact WE.sound (c:=b) j
  |exit i=>exact j
  |ret=>exact j)
 | .cond o a b,fr,s,K,h=>by
   rcases h with⟨u,q⟩|⟨u,q⟩
   exact cQ (t:=true) u (WE.sound (c:=a) q);exact cQ (t:=false) u (WE.sound (c:=b) q)
 | .block id b,fr,s,K,h=>W.block (WE.sound (c:=b) h)
 | .scope b,fr,s,K,h=>W.scope (WE.sound (c:=b) h)
 | .region ops,fr,s,K,h=>W.region (WV.run h)
 | .draw ops bs,fr,s,K,h=>h
 | .loop _,_,_,_,h=>h
 | .rfun _ _ _ _,_,_,_,h=>h
 | .bad,_,_,_,h=>h
def HN(Q:aH)(f:FuncId)(a b:SC)(e:ax)(sz:Nat)(lc:Loc)(s:St)(K:Ex->Fr->St->Prop)(v:Option aa):Prop:=(v=some (.bool true)/\WE Q f a ⟨e,sz,lc⟩ s K)\/(v=some (.bool false)/\WE Q f b ⟨e,sz,lc⟩ s K)
section
variable{e:ax}{sz:Nat}{lc:Loc}{s:St}{K:Ex->Fr->St->Prop}{a b:SC}
def aw8:WE Q f .skip ⟨e,sz,lc⟩ s K=K .normal ⟨e,sz,lc⟩ s:=rfl
def aw4:WE Q f .ret ⟨e,sz,lc⟩ s K=K .ret ⟨e,sz,lc⟩ s:=rfl
def aw1{id:Nat}:WE Q f (.exit id) ⟨e,sz,lc⟩ s K=K (.exit id) ⟨e,sz,lc⟩ s:=rfl
def aw7:WE Q f (.seq a b) ⟨e,sz,lc⟩ s K=WE Q f a ⟨e,sz,lc⟩ s (Ex.next K fun fr s=>WE Q f b fr s K):=rfl
def awZ:WE Q f (.cond o a b) ⟨e,sz,lc⟩ s K=HN Q f a b e sz lc s K (ev e o):=rfl
def awY{id:Nat}:WE Q f (.block id b) ⟨e,sz,lc⟩ s K=WE Q f b ⟨e,sz,lc⟩ s fun x=>K (x.block id):=rfl
def aw6:WE Q f (.scope b) ⟨e,sz,lc⟩ s K=WE Q f b ⟨e,sz,lc⟩ s K:=rfl
def aw3:WE Q f (.region ops) ⟨e,sz,lc⟩ s K=WV Q f ops ⟨e,sz,lc⟩ s fun fr s=>K .normal fr s:=rfl
def aw0{bs:List Nat}:WE Q f (.draw ops bs) ⟨e,sz,lc⟩ s K=W Q f (.draw ops bs) ⟨e,sz,lc⟩ s K:=rfl
def aw2:WE Q f (.loop b) ⟨e,sz,lc⟩ s K=W Q f (.loop b) ⟨e,sz,lc⟩ s K:=rfl
def aw5{p q:Code}:WE Q f (.rfun h ps p q) ⟨e,sz,lc⟩ s K=W Q f (.rfun h ps p q) ⟨e,sz,lc⟩ s K:=rfl
def atp:HN Q f a b e sz lc s K (some (.bool true))=WE Q f a ⟨e,sz,lc⟩ s K:=by simp[HN]
def ato:HN Q f a b e sz lc s K (some (.bool false))=WE Q f b ⟨e,sz,lc⟩ s K:=by simp[HN]
def W.loopE(h:WE Q f b fr s (Ex.next K fun fr s=>W Q f (.loop b) fr s K)):W Q f (.loop b) fr s K:=W.loop1 h.sound
end
end
def jI:Ex->Bool
 | .normal=>true
 |_=>false
def jL:Ex->Option Ex
 | .normal=>none
 |x=>some x
variable{s:St}{Q:aH}
def ji.any{f:FuncId}{n:Nat}{env j:aC aa}{size:Nat}{a b:Code}{ca cb:SC}{P:aa->St->Prop}(G:s.get [] n=some (.loop f env size ps a b none))(h1:ps.all (fun t=>bm t size)=true)(F:Gz ps args env=some j)(D:eD a=ca)(B:eD b=cb)(h:W Q f ca ⟨j,size,[]⟩ (s.put n none) fun x fr s1=>x= .normal/\W Q f cb fr s1 fun x _ u=>P (.bool (jI x)) (u.put n (some (.loop f env size ps a b (jL x))))): ∃v s',ji Q n args s v s'/\P v s':=by
 obtain⟨x,I,s1,A,rfl,y,H,u,w,E⟩:=h;obtain⟨k,hk⟩:=P0 A D;obtain⟨m,q⟩:=P0 w B;have hk:=(nM Q (Nat.le_max_left k m)).code _ _ _ _ _ _ hk;have q:=(nM Q (Nat.le_max_right k m)).code _ _ _ _ _ _ q;refine⟨_,_,⟨max k m,?_⟩,E⟩;unfold nq;cases y<;>simp only[G,au,Bv,h1,cT,F,hk,zL,q,Bu,jI,jL]
namespace aC
theorem all_of{α:Type}{p:α->Bool}: ∀ {t:aC α},(∀n x,t.get n=some x->p x=true)->t.all p=true
 | .nil,_=>rfl
 | .node l v r,h=>by
   have q:l.all p=true:=all_of fun n x u=>h (2*n+1) x (by
    grind [get_node])
   have j:r.all p=true:=all_of fun n x u=>h (2*n+2) x (by
    grind [get_node])
   cases v with
   |none=>
    show(true&&(l.all p&&r.all p))=true;rw[q,j];rfl
   |some z=>
    show(p z&&(l.all p&&r.all p))=true;rw[q,j,h 0 z (by rw[get_node,iP rfl])];rfl
theorem all_set{p:α->Bool}{t:aC α}{n:Nat}{x:α}(h:t.all p=true)(q:p x=true):(t.set n (some x)).all p=true:=all_of fun m y j=>by
 grind [get_set,all_get]
end aC
theorem rH(s:St)(n m:Nat)(o:Option aR):(s.put n o).get [] m=bif m==n then o else s.get [] m:=by
 grind [awQ,St.put,eh,aC.get_set]
variable{seen:List Nat}{it m:Nat}
section
variable{α:Type}[DecidableEq α]{enc:α->aa}
def dw(enc:α->aa)(n:Nat):List (α×aa)->List dK
 | []=>[]
 |(k,v)::l=>⟨enc k,v,n⟩::dw enc (n+1) l
def cI(k:α):List (α×aa)->Option aa
 | []=>none
 |(a,v)::l=>if k=a then some v else cI k l
def jM(k:α):List (α×aa)->Nat
 | []=>0
 |(a,_)::l=>if k=a then 0 else jM k l+1
def fe(k:α)(v:aa):List (α×aa)->List (α×aa)
 | []=>[(k,v)]
 |(a,u)::l=>if k=a then(k,v)::l else(a,u)::fe k v l
structure BI (P:Program) (kt:TypeId) (enc:α->aa):Prop where
 eq: ∀a b,kI P 8 kt (enc a) (enc b)=some (decide (a=b))
 same: ∀a,tI (enc a) (enc a)=true
 ge: ∀a,(enc a).ge=true
def bR(enc:α->aa)(s:St)(m:Nat)(L:List (α×aa)):Prop:=s.get [] m=some (.map (dw enc 0 L) L.length)
omit [DecidableEq α] in
theorem Mz: ∀(l r:List (α×aa)) (n:Nat),dw enc n (l++r)=dw enc n l++dw enc (n+l.length) r
 | [],r,n=>rfl
 |(a,v)::l,r,n=>by
  simp only[lY,dw,Mz l r (n+1),bH]
  grind
omit [DecidableEq α] in
def MB: ∀(l:List (α×aa)) (n:Nat),(dw enc n l).length=l.length
 | [],_=>rfl
 |(a,v)::l,n=>by simp only[dw,bH,MB l]
theorem ON(k j:α)(v:aa): ∀l,cI j (fe k v l)=if j=k then some v else cI j l
 | []=>rfl
 |(a,u)::l=>by
  simp only[fe];by_cases h:k=a
  grind [cI]
  simp only[iN h,cI,ON k j v l]
  grind
def vj{k:α}{v:aa}: ∀ {l},cI k l=none->fe k v l=l++[(k,v)]
 | [],_=>rfl
 |(a,u)::l,h=>by
  simp only[cI] at h;by_cases h1:k=a;simp[h1] at h;rw[iN h1] at h;simp only[fe,iN h1,vj h,lY]
theorem Ib{k:α}{v u:aa}: ∀ {l:List (α×aa)},cI k l=some u->(fe k v l).length=l.length
 | [],h=>by cases h
 |(a,w)::l,h=>by
  simp only[cI] at h;by_cases h1:k=a;simp[fe,h1];rw[iN h1] at h;simp only[fe,iN h1,bH,Ib h]
theorem Vr{k:α}{v:aa}: ∀ {l:List (α×aa)},cI k l=some v->fe k v l=l
 | [],h=>by cases h
 |(a,w)::l,h=>by
  simp only[cI] at h;by_cases h1:k=a
  grind [fe]
  rw[iN h1] at h;simp only[fe,iN h1,Vr h]
def Zk{k:α}: ∀ {l:List (α×aa)},cI k l=none->jM k l=l.length
 | [],_=>rfl
 |(a,u)::l,h=>by
  simp only[cI] at h;by_cases h1:k=a;simp[h1] at h;rw[iN h1] at h;simp only[jM,iN h1,Zk h,bH]
def Zj{k:α}{v:aa}: ∀ {l:List (α×aa)},jM k (fe k v l)=jM k l
 | []=>by simp[fe,jM]
 |(a,u)::l=>by
  by_cases h1:k=a;simp[fe,jM,h1];simp only[fe,jM,iN h1,Zj]
def MD{k:α}{u v:aa}: ∀ {l:List (α×aa)} {n:Nat},cI k l=some u->(dw enc n l).set (jM k l) ⟨enc k,v,n+jM k l⟩=dw enc n (fe k v l)
 | [],_,h=>by cases h
 |(a,w)::l,n,h=>by
  simp only[cI] at h;by_cases h1:k=a;simp[fe,jM,dw,h1];rw[iN h1] at h;simp only[fe,jM,dw,iN h1,List.set_cons_succ];rw[<-MD (l:=l) (n:=n+1) h,show n+(jM k l+1)=n+1+jM k l by omega]
theorem aac{k:α}{u v:aa}: ∀ {l:List (α×aa)} {n:Nat},cI k l=some u->zD (n+jM k l) v (dw enc n l)=some (dw enc n (fe k v l))
 | [],_,h=>by cases h
 |(a,w)::l,n,h=>by
  simp only[cI] at h;by_cases h1:k=a;subst h1;simp[fe,jM,dw,zD];rw[iN h1] at h;have q:aQ n (n+(jM k l+1))=false:=by rw[bD];exact bN.2 (by omega)
  have j:=aac (v:=v) (l:=l) (n:=n+1) h
  grind [fe,jM,dw,zD]
section
variable{P:Program}{kt:TypeId}(hK:BI P kt enc)
include hK
theorem Cm: ∀(l:List (α×aa)) (k:α) (n i:Nat),nK P kt (enc k) (dw enc n l) i=some ((cI k l).map fun v=>(i+jM k l,⟨enc k,v,n+jM k l⟩))
 | [],k,n,i=>rfl
 |(a,v)::l,k,n,i=>by
  simp only[dw,nK,hK.eq,au,cI,jM];by_cases h:k=a;subst h;simp;simp only[dN h,cF,iN h];rw[Cm l k (n+1) (i+1)]
  grind
variable{t e:TypeId}(hk: ∀k:α,lP P t (enc k)=some (kt,e))
include hk
theorem tK{z:aa}(hz:eV P e=some z){l:List (α×aa)}(j:bR enc s m l)(k:α):ou P [] t (.map m) (enc k) false s=some ((cI k l).getD z):=by
 have j:s.get [] m=_:=j;simp only[ou,hk,au,hz,AZ,j,Cm hK l k 0 0];cases cI k l<;>rfl
def oB(z:aa):Option aa->aa
 |some v=>.tup [v,.bool true]
 |none=>.tup [z,.bool false]
theorem yW{z:aa}(hz:eV P e=some z){l:List (α×aa)}(j:bR enc s m l)(k:α):ou P [] t (.map m) (enc k) true s=some (oB z (cI k l)):=by
 have j:s.get [] m=_:=j;simp only[ou,hk,au,hz,AZ,j,Cm hK l k 0 0];cases cI k l<;>rfl
theorem vU{l:List (α×aa)}(j:bR enc s m l)(k:α)(v:aa):qZ P [] t (.map m) (enc k) v s=some (s.put m (some (.map (dw enc 0 (fe k v l)) (fe k v l).length))):=by
 have j:s.get [] m=_:=j;simp only[qZ,hk,au,j,Cm hK l k 0 0];cases h:cI k l with
 |none=>
  simp only[sF,vj h,Mz,cJ,bH,bn,bV];rfl
 |some u=>
  have:=MD (enc:=enc) (v:=v) (n:=0) h;rw[bV] at this;simp only[kn,hK.same,cT,bV,this,Ib h]
theorem aeS{z:aa}(hz:eV P e=some z){l:List (α×aa)}(j:bR enc s m l)(k:α):rS P [] t (.map m) (enc k) s=some (.tup [(cI k l).getD z,.int .i64 (jM k l:Nat)],s.put m (some (.map (dw enc 0 (fe k ((cI k l).getD z) l)) (fe k ((cI k l).getD z) l).length))):=by
 have j:s.get [] m=_:=j;simp only[rS,hk,au,hz,j,Cm hK l k 0 0];cases h:cI k l with
 |none=>
  simp only[sF,Option.getD_none,vj h,Mz,cJ,bH,bn,bV,Zk h];rfl
 |some u=>
  have:=MD (enc:=enc) (v:=u) (n:=0) h;rw[bV] at this;simp only[kn,wt,hK.same,cT,bV,this,Ib h]
omit hK hk in
theorem TZ{l:List (α×aa)}{k:α}{u:aa}(j:bR enc s m l)(h:cI k l=some u)(v:aa):u4 [] (.map m) (.int .i64 (jM k l:Nat)) v s=some (s.put m (some (.map (dw enc 0 (fe k v l)) (fe k v l).length))):=by
 have j:s.get [] m=_:=j;have q:=aac (enc:=enc) (v:=v) (n:=0) h
 grind [u4,oz,Ib]
omit hK hk [DecidableEq α] in
theorem bR.put{L:List (α×aa)}:bR enc (s.put m (some (.map (dw enc 0 L) L.length))) m L:=by
 show(s.put m _).get [] m=_;rw[rH,bS];rfl
end
omit [DecidableEq α] in
theorem Ez: ∀(L:List (α×aa)) (n:Nat) (e:dK),e∈dw enc n L->n<=e.born/\e.born<n+L.length
 | [],n,e,h=>by cases h
 |(a,v)::L,n,e,h=>by
  rcases fc.1 h with rfl|h
  grind
  have:=Ez L (n+1) e h;simp only[bH];omega
omit [DecidableEq α] in
omit [DecidableEq α] in
theorem MA: ∀(L:List (α×aa)) (n:Nat) (e:dK),e∈dw enc n L-> ∃p:α×aa,L[e.born-n]? =some p/\e.key=enc p.1/\e.val=p.2
 | [],n,e,h=>by cases h
 |(a,v)::L,n,e,h=>by
  rcases fc.1 h with rfl|h
  exact⟨(a,v),by simp,rfl,rfl⟩;obtain⟨p,q,j⟩:=MA L (n+1) e h
  have:=Ez L (n+1) e h
  grind
omit [DecidableEq α] in
def MC: ∀(L:List (α×aa)) (n i:Nat) (p:α×aa),L[i]? =some p->⟨enc p.1,p.2,n+i⟩∈dw enc n L
 | [],n,i,p,h=>by cases h
 |(a,v)::L,n,0,p,h=>by
  simp only[iw,aJ] at h;subst h;exact iL
 |(a,v)::L,n,i+1,p,h=>by
  rw[jO] at h
  have:=MC L (n+1) i p h;rw[show n+(i+1)=n+1+i by omega];exact List.mem_cons_of_mem _ this
omit [DecidableEq α] in
def Ux: ∀(L:List (α×aa)) (n:Nat) (e:dK),e∈dw enc n L->Az e.born (dw enc n L)=some e
 | [],n,e,h=>by cases h
 |(a,v)::L,n,e,h=>by
  simp only[dw,Az];rcases fc.1 h with rfl|h
  simp;have j:=Ez L (n+1) e h;have:aQ n e.born=false:=by
   rw[bD];exact bN.2 (by omega)
  rw[this];exact Ux L (n+1) e h
theorem OT{es:List dK}{e:dK}:e∈mF seen es↔e∈es/\e.born ∉ seen:=by
 simp only[mF,List.mem_filter,awP,List.any_eq_false];constructor;rintro⟨u,q⟩;exact⟨u,fun j=>q _ j (by simp)⟩
 grind [jP]
structure jv (enc:α->aa) (s:St) (it m:Nat) (L:List (α×aa)) (seen:List Nat):Prop where
 hi:s.get [] it=some (.iter (some m) L.length seen L.length)
 hm:bR enc s m L
 nd:seen.Nodup
 lt: ∀b∈seen,b<L.length
omit [DecidableEq α] in
theorem jv.calm{L:List (α×aa)}(c:jv enc s it m L seen)(ch kmax:Nat->Nat):pn [] ch kmax (.ptr it 0) false s=tP ch kmax it m L.length seen L.length (mF seen (dw enc 0 L)) s:=by
 have j:s.get [] m=_:=c.hm;simp only[pn,c.hi,j,au,cF];have:(!seen.isEmpty&& !(dw enc 0 L).isEmpty&&(dw enc 0 L).all fun e=>bw L.length e.born)=false:=by
  cases L with
  |nil=>simp[dw]
  |cons x L=>
   grind [dw,bw]
 rw[this];rfl
omit [DecidableEq α] in
theorem jv.aL{L:List (α×aa)}(c:jv enc s it m L seen)(ch kmax:Nat->Nat)(hk: ∀i,L.length<=kmax i):
 (seen.Perm (List.range L.length)/\pn [] ch kmax (.ptr it 0) false s=some (.tup [.bool false],s))\/
 ∃(b:Nat) (p:α×aa) (s':St),L[b]? =some p/\b ∉ seen/\seen.length<L.length/\pn [] ch kmax (.ptr it 0) false s=some (.tup [.bool true,enc p.1,p.2],s')/\(∀n,n≠it->s'.get [] n=s.get [] n)/\s'.get [] it=some (.iter (some m) L.length (seen++[b]) L.length)/\s'.aL=s.aL/\s'.gt=(s.put it none).gt:=by
 rw[c.calm];have u: ∀e∈mF seen (dw enc 0 L),bm e.born L.length=true:=fun e J=>by
  have:=Ez L 0 e (OT.1 J).1;exact cP (by omega)
 have q:(mF seen (dw enc 0 L)).length<=L.length:=by
  have w:(mF seen (dw enc 0 L)).length<=(dw enc 0 L).length:=List.length_filter_le _ _;rw[MB] at w;exact w
 have F: ∀b,b<L.length->b ∉ seen->seen.length<L.length:=fun b j B=>by
  have w:(b::seen).Nodup:=DZ.2 ⟨B,c.nd⟩;have D:(b::seen) ⊆ List.range L.length:=fun x E=>by
   rcases fc.1 E with rfl|E
   exact uD.2 j;exact uD.2 (c.lt x E)
  have:=w.length_le_of_subset D
  grind
 have pick: ∀(e:dK) (s1:St),e∈mF seen (dw enc 0 L)->s1.heap=(s.put it (some (.iter (some m) L.length (seen++[e.born]) L.length))).heap->s1.aL=s.aL->s1.gt=(s.put it none).gt->
  ∃(b:Nat) (p:α×aa) (s':St),L[b]? =some p/\b ∉ seen/\seen.length<L.length/\some (aa.tup [.bool true,e.key,e.val],s1)=some (.tup [.bool true,enc p.1,p.2],s')/\(∀n,n≠it->s'.get [] n=s.get [] n)/\s'.get [] it=some (.iter (some m) L.length (seen++[b]) L.length)/\s'.aL=s.aL/\s'.gt=(s.put it none).gt:=fun e s1 J O B G=>by
  obtain⟨w,D⟩:=OT.1 J;obtain⟨p,U,T,S⟩:=MA L 0 e w;have Y:=Ez L 0 e w;have V: ∀n,s1.get [] n=(s.put it (some (.iter (some m) L.length (seen++[e.born]) L.length))).get [] n:=fun n=>by
   show(bif eh [] n then none else s1.heap.get n)=_;rw[O];rfl
  refine⟨e.born,p,s1,by simpa using U,D,F _ (by omega) D,by rw[T,S],fun n M=>?_,?_,B,G⟩
  all_goals grind [rH]
 cases hu:mF seen (dw enc 0 L) with
 |nil=>
  refine .inl ⟨?_,rfl⟩;refine(List.perm_ext_iff_of_nodup c.nd List.nodup_range).2 fun b=>⟨fun j=>uD.2 (c.lt b j),fun j=>?_⟩;have j:=uD.1 j;refine Decidable.byContradiction fun B=>?_;have:(⟨enc (L[b]).1,(L[b]).2,0+b⟩:dK)∈mF seen (dw enc 0 L):=OT.2 ⟨MC L 0 b _ (gn j),by simpa using B⟩;rw[hu] at this;cases this
 |cons e r=>
  right;rw[hu] at u q pick;have j:((e::r).all fun e=>bm e.born L.length)=true:=f8.2 u;cases r with
  |nil=>
   have:=pick e (vP it m L.length L.length seen e s).2 (by simp) rfl rfl rfl;simp only[tP,j,cT];exact this
  |cons A r=>
   have I:bw (e::A::r).length (kmax s.ci)=true:=cP (Nat.le_trans q (hk _));have H:ch s.ci % (e::A::r).length<(e::A::r).length:=Nat.mod_lt _ (by simp)
   have:=pick (e::A::r)[ch s.ci % (e::A::r).length] { (vP it m L.length L.length seen (e::A::r)[ch s.ci % (e::A::r).length] s).2 with ci:=s.ci+1 } (List.getElem_mem _) rfl rfl rfl;simp only[tP,j,cT,I,gn H,au];exact this
omit [DecidableEq α] in
theorem jv.entry{L:List (α×aa)}{b:Nat}{p:α×aa}(hi:s.get [] it=some (.iter (some m) L.length (seen++[b]) L.length))(j:bR enc s m L)(q:L[b]? =some p):wO [] (.ptr it 0) s=some (.tup [enc p.1,p.2]):=by
 have j:s.get [] m=_:=j;have u:=Ux (enc:=enc) L 0 _ (MC L 0 b p q)
 grind [wO,bD]
omit [DecidableEq α] in
theorem jv.go{b:Nat}{L:List (α×aa)}{p:α×aa}(c:jv enc s it m L seen)(q:m≠it)(B:L[b]? =some p)(A:b ∉ seen)(u: ∀n,n≠it->s'.get [] n=s.get [] n)(hi:s'.get [] it=some (.iter (some m) L.length (seen++[b]) L.length)):jv enc s' it m L (seen++[b]):=
 ⟨hi,(u m q).trans c.hm,List.nodup_append.2 ⟨c.nd,by simp,fun x j y w e=>by grind⟩,fun x j=>by
  rcases List.mem_append.1 j with j|j
  exact c.lt x j
  grind⟩
omit [DecidableEq α] in
theorem jv.begin{L:List (α×aa)}(q:bR enc s m L)(u:m<s.aL):jv enc (s.new (.iter (some m) L.length [] L.length)) s.aL m L []:=by
 have j: ∀n,(s.new (.iter (some m) L.length [] L.length)).get [] n=bif n==s.aL then some (.iter (some m) L.length [] L.length) else s.get [] n:=fun n=>by
  grind [awQ,St.new,eh,aC.get_set]
 refine⟨by rw[j,bS];rfl,?_,List.nodup_nil,fun _ h=>by cases h⟩;show(s.new _).get [] m=_;rw[j,bN.2 (by omega:m≠s.aL)];exact q
omit [DecidableEq α] in
theorem jv.new{P:Program}{t kt e:TypeId}(q:P.underlying t=some (.map kt e)){L:List (α×aa)}(j:bR enc s m L):t5 P [] t (.map m) s=some (.ptr s.aL 0,s.new (.iter (some m) L.length [] L.length)):=by
 have j:s.get [] m=_:=j;simp only[t5,q,au,j]
end
section
variable{Q:aH}{f:FuncId}{e:ax}{sz:Nat}{lc:Loc}{s:St}{d:Option Tmp}{g:SG}{mk:aK}
def H3(t:TypeId)(x:Operand):cM Q f ⟨d,.range t x,g⟩ mk ⟨e,sz,lc⟩ s=(evc e x).bind fun x=>gW (t5 Q.P mk t x s) lc:=rfl
def yG(x:Operand)(b:Bool):cM Q f ⟨d,.next x b,g⟩ mk ⟨e,sz,lc⟩ s=(evc e x).bind fun it=>gW (pn mk Q.ch Q.kmax it b s) lc:=rfl
def EH(x:Operand):cM Q f ⟨d,.entry x,g⟩ mk ⟨e,sz,lc⟩ s=(evc e x).bind fun it=>fT (wO mk it s) lc s:=rfl
def MZ(t:TypeId)(m k:Operand):cM Q f ⟨d,.mapEntry t m k,g⟩ mk ⟨e,sz,lc⟩ s=(evc e m).bind fun m=>(evc e k).bind fun k=>gW (rS Q.P mk t m k s) lc:=rfl
def MY(t:TypeId)(m j x:Operand):cM Q f ⟨d,.entryStore t m j x,g⟩ mk ⟨e,sz,lc⟩ s=(evc e m).bind fun m=>(evc e j).bind fun j=>(evc e x).bind fun x=>nW (u4 mk m j x s) lc:=rfl
end
theorem UV(s:St)(m:Nat)(o:aR):(s.new o).get [] m=bif m==s.aL then some o else s.get [] m:=by
 grind [awQ,St.new,eh,aC.get_set]
theorem FH(s:St)(n:Nat)(o:Option aR)(h:s.gt<=s.aL):(s.put n o).gt<=(s.put n o).aL:=by
 show(bif bw s.gt n then s.gt else n)<=s.aL
 grind [cP]
variable{lo:Nat}
section
variable{α:Type}[DecidableEq α]{enc:α->aa}
def gZ(K:List α)(f:α->aa):List (α×aa):=K.map fun k=>(k,f k)
def lH{β:Type}(f:α->β)(k:α)(v:β):α->β:=fun x=>if x=k then v else f x
def fq(k:α)(K:List α):List α:=if k∈K then K else K++[k]
theorem qm{β:Type}(f:α->β)(k:α)(v:β):lH f k v k=v:=by simp[lH]
theorem lf{β:Type}(f:α->β){k x:α}(v:β)(h:x≠k):lH f k v x=f x:=by simp[lH,h]
theorem qO{k x:α}{K:List α}:x∈fq k K↔x=k\/x∈K:=by
 grind [fq]
theorem x5{k:α}{K:List α}(h:K.Nodup):(fq k K).Nodup:=by
 grind [fq]
theorem acB(k:α)(K:List α):K.length<=(fq k K).length/\(fq k K).length<=K.length+1:=by
 grind [fq]
omit [DecidableEq α] in
def uj(K:List α)(f:α->aa):(gZ K f).length=K.length:=ce ..
def CN(k:α)(f:α->aa): ∀K:List α,cI k (gZ K f)=if k∈K then some (f k) else none
 | []=>rfl
 |a::K=>by
  show(if k=a then some (f a) else cI k (gZ K f))=_;by_cases h:k=a;subst h;simp;rw[iN h,CN k f K];simp[h]
omit [DecidableEq α] in
theorem KQ{K:List α}{f g:α->aa}(h: ∀k∈K,f k=g k):gZ K f=gZ K g:=List.map_congr_left fun k hk=>by rw[h k hk]
theorem Cv{k:α}{v:aa}(f:α->aa): ∀ {K:List α},K.Nodup->fe k v (gZ K f)=gZ (fq k K) (lH f k v)
 | [],_=>by simp[gZ,fe,fq,lH]
 |a::K,nd=>by
  have j:=DZ.1 nd;show fe k v ((a,f a)::gZ K f)=_;by_cases h:k=a;subst h;have q:k∈k::K:=iL;simp only[fe,if_true,fq,iP q];show _=(k,lH f k v k)::gZ K (lH f k v)
  grind [KQ,lH]
  have u:=Cv (k:=k) (v:=v) f j.2
  grind [fq,fe,gZ,lf]
variable{β:Type}{encE:β->aa}
structure sO (enc:α->aa) (encE:β->aa) (s:St) (m lo:Nat) (K:List α) (V:α->List β) (T:α->Nat):Prop where
 hm:bR enc s m (gZ K fun k=>.list 1 ((V k).map encE) (.own (T k)))
 nd:K.Nodup
 tok: ∀k∈K,s.get [] (T k)=some .tok/\lo<=T k/\T k<s.aL
 inj: ∀k∈K, ∀k'∈K,T k=T k'->k=k'
 out: ∀k,k ∉ K->V k=[]
 mlt:m<lo
 los:lo<=s.aL
omit [DecidableEq α] in
def sO.mono{K:List α}{V:α->List β}{T:α->Nat}(h:sO enc encE s m lo K V T)(q:s'.get [] m=s.get [] m)(j: ∀k∈K,s'.get [] (T k)=s.get [] (T k))(u:s.aL<=s'.aL):sO enc encE s' m lo K V T:=
 ⟨q.trans h.hm,h.nd,fun k hk=>⟨(j k hk).trans (h.tok k hk).1,(h.tok k hk).2.1,by have:=(h.tok k hk).2.2;omega⟩,h.inj,h.out,h.mlt,by have:=h.los;omega⟩
section
variable{P:Program}{kt t e:TypeId}(hK:BI P kt enc)(hk: ∀k:α,lP P t (enc k)=some (kt,e))(hz:eV P e=some .oZ)
include hK hk hz
theorem sO.look{K:List α}{V:α->List β}{T:α->Nat}(h:sO enc encE s m lo K V T)(k:α): ∃v,ou P [] t (.map m) (enc k) false s=some v/\ay 1 encE v (V k):=by
 have j:=tK hK hk hz h.hm k;rw[CN] at j;by_cases hm:k∈K;rw[iP hm] at j;exact⟨_,j,.inr ⟨_,rfl⟩⟩;rw[iN hm] at j;exact⟨_,j,.inl ⟨rfl,h.out k hm⟩⟩
theorem sO.app{ts:TypeId}{E:EI}(hE:lV P ts=some E)(hn:E.n=1)(hb: ∀n,n<=1000000->jc n E.b=true){K:List α}{V:α->List β}{T:α->Nat}(h:sO enc encE s m lo K V T)(k:α)(x:β)(a9:(V k).length<1000000)(a0:s.gt<=s.aL):
 ∃(v0:aa) (p:Nat) (s1:St) (ov:aa) (s2 S:St),rS P [] t (.map m) (enc k) s=some (.tup [v0,.int .i64 (p:Nat)],s1)/\v0.ge=true/\fF P [] ts v0 (.list 1 [encE x] .uP) false s1=some (ov,s2)/\ov.ge=true/\u4 [] (.map m) (.int .i64 (p:Nat)) ov s2=some S/\
  sO enc encE S m lo (fq k K) (lH V k (V k++[x])) (lH T k s.aL)/\(∀n,n<lo->n≠m->S.get [] n=s.get [] n)/\S.aL=s.aL+1/\S.ci=s.ci/\S.gt<=S.aL:=by
 have w:=aeS hK hk hz h.hm k;have hr:jc ((V k).length+1) E.b=true:=hb _ (by omega);have a2:=h.mlt;have a3:=h.los;have a1:m≠s.aL:=by omega
 rw[CN] at w;by_cases hmem:k∈K;rw[iP hmem] at w;have U:fe k (.list 1 ((V k).map encE) (.own (T k))) (gZ K fun k=>.list 1 ((V k).map encE) (.own (T k)))=gZ K fun k=>.list 1 ((V k).map encE) (.own (T k)):=Vr (by rw[CN,iP hmem]);simp only[wt,U] at w;obtain⟨t1,t2,t3⟩:=h.tok k hmem;have a4:T k≠m:=by omega
 have G:fq k K=K:=by unfold fq;rw[iP hmem]
 generalize hp:jM k (gZ K fun k=>aa.list 1 ((V k).map encE) (.own (T k)))=p at w;have a8:(s.put m (some (.map (dw enc 0 (gZ K fun k=>.list 1 ((V k).map encE) (.own (T k)))) (gZ K fun k=>aa.list 1 ((V k).map encE) (.own (T k))).length))).get [] (T k)=some .tok:=by rw[rH,bN.2 a4];exact t1
 generalize hs1:s.put m (some (.map (dw enc 0 (gZ K fun k=>.list 1 ((V k).map encE) (.own (T k)))) (gZ K fun k=>aa.list 1 ((V k).map encE) (.own (T k))).length))=s1 at w a8;have n1:s1.aL=s.aL:=by rw[<-hs1];rfl
 have g1: ∀n,n≠m->s1.get [] n=s.get [] n:=fun n Y=>by grind [rH]
 have m1:bR enc s1 m (gZ K fun k=>.list 1 ((V k).map encE) (.own (T k))):=by rw[<-hs1];exact bR.put
 have w1:s1.gt<=s1.aL:=by rw[<-hs1];exact FH _ _ _ a0
 have g2: ∀n,((s1.put (T k) none).new .tok).get [] n=bif n==s.aL then some .tok else bif n==T k then none else s1.get [] n:=fun n=>by rw[UV,rH];show(bif n==s1.aL then _ else _)=_;rw[n1]
 have m2:bR enc ((s1.put (T k) none).new .tok) m (gZ K fun k=>.list 1 ((V k).map encE) (.own (T k))):=by
  show awQ _ [] m=_;rw[g2,bN.2 a1,bN.2 a4.symm];exact m1
 have H:=TZ (v:=.list 1 ((V k++[x]).map encE) (.own s.aL)) m2 (k:=k) (u:=.list 1 ((V k).map encE) (.own (T k))) (by rw[CN,iP hmem]);rw[hp,Cv _ h.nd,G] at H;refine⟨_,p,s1,.list 1 ((V k++[x]).map encE) (.own s.aL),(s1.put (T k) none).new .tok,_,w,rfl,?_,rfl,H,⟨?_,by rw[G];exact h.nd,fun j D=>?_,fun j D O J e=>?_,fun j D=>?_,a2,?_⟩,fun n hn Y=>?_,by show s1.aL+1=_;rw[n1],?_,?_⟩
 grind [fF,eE,bD,jG]
 grind [lH,KQ,bR.put]
 rw[G] at D;by_cases q:j=k;subst q;rw[qm];refine⟨?_,a3,?_⟩
 grind [rH]
 show s.aL<s1.aL+1;omega;obtain⟨u1,u2,u3⟩:=h.tok j D;rw[lf _ _ q];have e1:T j≠m:=by omega
 have e2:T j≠s.aL:=by omega
 have e3:T j≠T k:=fun e=>q (h.inj j D k hmem e);refine⟨?_,u2,?_⟩
 grind [rH]
 show T j<s1.aL+1;omega;rw[G] at D J;by_cases q:j=k<;>by_cases B:O=k;rw[q,B];subst q;rw[qm,lf _ _ B] at e
 have:=(h.tok O J).2.2;omega;subst B;rw[qm,lf _ _ q] at e
 have:=(h.tok j D).2.2;omega;rw[lf _ _ q,lf _ _ B] at e;exact h.inj j D O J e;rw[G] at D;have q:j≠k:=fun e=>D (e▸hmem);rw[lf _ _ q];exact h.out j D;show lo<=s1.aL+1;omega
 grind [rH]
 show s1.ci=_;rw[<-hs1];rfl;refine FH _ _ _ ?_;exact cq (FH _ _ _ w1);rw[iN hmem] at w;have hV:=h.out k hmem;have G:fq k K=K++[k]:=by unfold fq;rw[iN hmem]
 simp only[Option.getD_none] at w;rw[Cv _ h.nd] at w;generalize hp:jM k (gZ K fun k=>aa.list 1 ((V k).map encE) (.own (T k)))=p at w;generalize hF:lH (fun k=>aa.list 1 ((V k).map encE) (.own (T k))) k .oZ=F at w;generalize hs1:s.put m (some (.map (dw enc 0 (gZ (fq k K) F)) (gZ (fq k K) F).length))=s1 at w;have n1:s1.aL=s.aL:=by rw[<-hs1];rfl
 have g1: ∀n,n≠m->s1.get [] n=s.get [] n:=fun n Y=>by grind [rH]
 have m1:bR enc s1 m (gZ (fq k K) F):=by rw[<-hs1];exact bR.put
 have w1:s1.gt<=s1.aL:=by rw[<-hs1];exact FH _ _ _ a0
 have g2: ∀n,(s1.new .tok).get [] n=bif n==s.aL then some .tok else s1.get [] n:=fun n=>by rw[UV,n1]
 have m2:bR enc (s1.new .tok) m (gZ (fq k K) F):=by
  show awQ _ [] m=_;rw[g2,bN.2 a1];exact m1
 have a5:jM k (gZ (fq k K) F)=p:=by
  rw[<-hp,<-hF,<-Cv _ h.nd,Zj]
 have H:=TZ (v:=.list 1 ([x].map encE) (.own s.aL)) m2 (k:=k) (u:=F k) (by rw[CN,iP (qO.2 (.inl rfl))]);rw[a5,Cv _ (x5 h.nd)] at H;have Z:fq k (fq k K)=fq k K:=by
  have:k∈fq k K:=qO.2 (.inl rfl);generalize fq k K=A at this ⊢;unfold fq;rw[iP this]
 rw[Z] at H;refine⟨.oZ,p,s1,.list 1 ([x].map encE) (.own s.aL),s1.new .tok,_,w,rfl,?_,rfl,H,⟨?_,x5 h.nd,fun j D=>?_,fun j D O J e=>?_,fun j D=>?_,a2,?_⟩,fun n hn Y=>?_,by show s1.aL+1=_;rw[n1],?_,?_⟩
 grind [jc,fF,eE,bD,jG,kL]
 have:gZ (fq k K) (lH F k (.list 1 ([x].map encE) (.own s.aL)))=gZ (fq k K) fun j=>.list 1 ((lH V k (V k++[x]) j).map encE) (.own (lH T k s.aL j)):=KQ fun j _=>by
  by_cases q:j=k
  grind [qm]
  rw[<-hF];simp only[lf _ _ q]
 rw[this];exact bR.put;rcases qO.1 D with rfl|D
 rw[qm];refine⟨?_,a3,?_⟩
 grind [rH]
 show s.aL<s1.aL+1;omega;obtain⟨u1,u2,u3⟩:=h.tok j D;have q:j≠k:=fun e=>hmem (e▸D);rw[lf _ _ q];have e1:T j≠m:=by omega
 have e2:T j≠s.aL:=by omega
 refine⟨?_,u2,?_⟩
 grind [rH]
 show T j<s1.aL+1;omega;rcases qO.1 D with q|qj<;>rcases qO.1 J with B|M
 rw[q,B];have I:O≠k:=fun e=>hmem (e▸M);rw[q,qm,lf _ _ I] at e
 have:=(h.tok O M).2.2;omega;have I:j≠k:=fun e=>hmem (e▸qj);rw[B,qm,lf _ _ I] at e
 have:=(h.tok j qj).2.2;omega;have I:j≠k:=fun e=>hmem (e▸qj);have a6:O≠k:=fun e=>hmem (e▸M);rw[lf _ _ I,lf _ _ a6] at e;exact h.inj j qj O M e;have a7:j≠k:=fun e=>D (qO.2 (.inl e));rw[lf _ _ a7];exact h.out j fun hm=>D (qO.2 (.inr hm));show lo<=s1.aL+1;omega
 grind [rH]
 show s1.ci=_;rw[<-hs1];rfl;exact FH _ _ _ (cq w1)
end
end
def L9(n o:Nat):(aa.ptr n o).cells=[.ptr n o]:=rfl
def HF(f:Fn)(a b:List aa):(aa.func f a b).cells=[.func f a b]:=rfl
def ayD(a:Operand):yh (.nilCheck a)=3:=rfl
def axY(h:Tmp->Nat)(d:Option Tmp)(e:ax)(a:Operand):cu h d e (.nilCheck a)=ve e a:=rfl
attribute[go_sem]sU azN xZ uh Bt DI isStore aaA gI aN aO sS eW aP ug iu jF abq abp lg oL nX ka GU Yx Yw aj gw dj cY yV bJ bW ek vB Ba Df Pu aAq tX cj mA Zb eC Ga nf PA J7 J8 Px Pw Zc Za eN iX iM aA bC MF bq da azU dl cC my rB Eh gS mZ em iq gJ oz aM eG PT fG Aj nG kE nF BT mP SM SQ An SR oe Am ye HB mE eM SN dA gD td HG S9 L8 zH Option.bind_some Option.bind_none lM cm eU mq Mf Ts Mg B3 Tr Tq Tp Aq cond_true cond_false List.length_cons List.length_nil cut fL List.head?_cons List.drop_succ_cons List.drop_zero List.take_succ_cons List.take_zero List.nil_append List.cons_append List.append_nil fB Bool.not_true Bool.not_false beq_self_eq_true Nat.beq_eq_true_eq and_true true_and Nat.zero_add Nat.add_zero Bool.true_and Bool.and_true Bool.false_and Bool.and_false Bool.not_not bD jC gG decide_true decide_false BG zZ D3 qt wu zY Rj qs Hf Li B9 Ar FP FQ dq nH L0 Eg D9 Hp azO R1 abt abr KK aaC vf or_true true_or false_or kZ KR eq_self Bool.true_or Bool.false_or Bool.or_true Bool.or_false jt Kk Zd Ze Zf Zg Option.map_some Option.some.injEq ofValue pw as8 as7 awo awp awq awr ayc ayb aye ayd atI avE aw9 ax5 ax6 ayi Nat.le_refl axT ax0 axQ axS axX axJ axM axN axK ax1 axP axH axL axO axI atJ atK axx axD axz axF axq axs axf axj axo axp axr axh axk axl axi axt axn axm axg pD Bool.or_self Bool.and_self y8 fh List.getElem?_cons_zero List.getElem?_cons_succ Rh Rc Q9 Rg Q7 Q6 Rf Rb Q8 Ra Re TK TJ R5 R3 R4 R6 Vn Vm TN TM SY SZ SX SW aaE aaD ot rR aw8 aw4 aw1 aw7 awZ awY aw6 aw3 aw0 aw2 aw5 atp ato ata as9 atd atb atc ayk ayj axv axu axd axe axc axb atN atL atM aws awu awt ayy ayG aym ayq ayu ayw ayv ayC ayo ayE ayr ays ayp ayH ayt ayF ayz ayn ayx ayB ayA mY axU axZ axR ax2 axW axV atO atQ axG axy axE axB axC ax7 aya ayI ax9 ayg ax8 ayf atm avD L9 HF ayD axY
section
variable(P:Program)
def Ut(t f:Nat):Option Nat:=(P.underlying t).bind fun
 | .struct fields=>(fields[f]?).bind fun j=>(dI P j.type).bind fun n=>bif aQ n 0 then none else some j.offset
 |_=>none
abbrev cx(t f k:Nat):Prop:= ∀lc:Loc,(∀l g o,tl P lc t (.rd l g o) f=bif aQ (lc.gen l) g then some (.rd l g (o+k)) else none)/\(∀cs,tl P lc t (.ro cs) f=some (.ro (cs.drop k)))/\ ∀m o,tl P lc t (.ptr m o) f=some (.ptr m (o+k))
abbrev gR(t n b:Nat)(g:Bool)(z:aa):Prop:=lV P t=some ⟨n,b,g,z⟩/\rN P t=true/\(∀lc m xs r i,ja P lc t (.list m xs r) i=(dS i).bind fun i=>bif aQ m n&&bm i xs.length then some (.ro (nN xs i).cells) else none)/\(∀lc a m o l c i,ja P lc t (.arr a m o l c) i=(dS i).bind fun i=>bif aQ a n&&bm i l then some (.ptr m (o+i*n)) else none)/\(∀mk s,jo P mk t .oZ s=some (.int .i64 (0:Nat)))/\ ∀mk n xs r s,jo P mk t (.list n xs r) s=some (.int .i64 (xs:List aa).length)
abbrev eJ(t:Nat):Prop:= ∀cs off,js P t cs off=(cs.drop off).head?
abbrev gl(t n:Nat):Prop:= ∀cs off,js P t cs off=(cut cs off n).bind fun r=>some (.agg r)
abbrev hQ(t:Nat)(l:List (Nat×Nat)):Prop:= ∀ps e,ta P t ps e=(eV P t).bind fun z=>(bg (fun i=>l[i]?) e z.cells ps).bind fun c=>some (.agg c)
abbrev uI(t n:Nat):Prop:= ∀ps e,ta P t ps e=(eV P t).bind fun z=>(bg (fun i=>some (i*n,n)) e z.cells ps).bind fun c=>some (.agg c)
def Sz(t:Nat):Option (List (Nat×Nat)):=(P.underlying t).bind fun
 | .struct fields=>Dg P fields.toList
 |_=>none
def back(t:Nat):Option Nat:=(P.underlying t).bind fun
 | .array _ e=>dI P e
 |_=>none
end
variable{P:Program}{t f k n b:Nat}{g:Bool}{z:aa}
def cx.of(h:Ut P t f=some k:=by kernel_rfl):cx P t f k:=by
 intro lc;unfold Ut at h;unfold tl;cases e:P.underlying t with
 |none=>rw[e] at h;cases h
 |some d=>
  rw[e] at h;cases d<;>try (cases h;done)
  rename_i j;simp only[au] at h ⊢;cases e1:j[f]? with
  |none=>rw[e1] at h;cases h
  |some q=>
   rw[e1] at h;simp only[au] at h ⊢;cases e2:dI P q.type with
   |none=>rw[e2] at h;cases h
   |some m=>
    rw[e2] at h;simp only[au] at h ⊢;cases e3:aQ m 0 with
    |true=>rw[e3] at h;cases h
    |false=>
     rw[e3] at h;simp only[cF,aJ] at h ⊢;subst h;exact⟨fun _ _ _=>rfl,fun _=>rfl,fun _ _=>rfl⟩
def gR.of(h:lV P t=some ⟨n,b,g,z⟩:=by kernel_rfl):gR P t n b g z:=by
 refine⟨h,?_⟩;unfold lV at h;cases e:P.underlying t with
 |none=>rw[e] at h;cases h
 |some d=>
  rw[e] at h;cases d<;>try (cases h;done)
  rename_i w;simp only[au,yy] at h;cases e1:dI P w with
  |none=>rw[e1] at h;cases h
  |some m=>
   rw[e1] at h;have q:m=n:=by
    simp only[au,ak] at h;obtain⟨A,_,u,_,j,_,h⟩:=h;cases hc:(bm 0 m&&aQ j.cells.length m&&(u||aQ m 1)&&bm 0 A) with
    |false=>rw[hc] at h;cases h
    |true=>rw[hc] at h;injection h with h;injection h
   subst q;refine⟨by unfold rN;rw[e],fun lc a xs r i=>?_,fun lc a B o l c i=>?_,fun mk s=>?_,fun mk a xs r s=>?_⟩
   all_goals simp only[ja,jo,e,au,e1]
   rfl
def eJ.of(h:AP P t=some false:=by kernel_rfl):eJ P t:=fun cs j=>by
 unfold js;rw[h];simp only[au,cF];cases cs.drop j<;>rfl
def gl.of(h:AP P t=some true:=by kernel_rfl)(q:dI P t=some n:=by kernel_rfl):gl P t n:=fun cs j=>by
 unfold js;rw[h,q];rfl
def hQ.of{l:List (Nat×Nat)}(h:Sz P t=some l:=by kernel_rfl):hQ P t l:=fun ps e=>by
 unfold Sz at h;unfold ta;cases e1:P.underlying t with
 |none=>rw[e1] at h;cases h
 |some d=>
  rw[e1] at h;cases d<;>try (cases h;done)
  simp only[au] at h ⊢;rw[h];rfl
def uI.of(h:back P t=some n:=by kernel_rfl):uI P t n:=fun ps e=>by
 unfold back at h;unfold ta;cases e1:P.underlying t with
 |none=>rw[e1] at h;cases h
 |some d=>
  rw[e1] at h;cases d<;>try (cases h;done)
  simp only[au] at h ⊢;rw[h];rfl
def ay.lenS{enc:α->aa}{l:List α}(h:ay n enc v l)(F:gR P t m b g z)(mk:aK)(s:St):jo P mk t v s=some (.int .i64 (l.length:Nat)):=h.len F.2.2.2.2.1 F.2.2.2.2.2 mk s
def ct(a:α): ∃x,a=x:=⟨a,rfl⟩
def ale{n:Nat}(h:n<9223372036854775807):IntKind.i64.wrap ((n:Int)+1)=((n+1:Nat):Int):=by rw[iC (by omega) (by omega)];omega
def W.cnTZ{f:FuncId}{b:SC}(h:W Q f a fr s K)(j:ev fr.env o=some (.bool true):=by simp only[aA,aj,Nat.reduceBEq,cT,cF, *]):W Q f (.cond o a b) fr s K:=W.cond (t:=true) j h
def W.cnFZ{f:FuncId}{b:SC}(h:W Q f b fr s K)(j:ev fr.env o=some (.bool false):=by simp only[aA,aj,Nat.reduceBEq,cT,cF, *]):W Q f (.cond o a b) fr s K:=W.cond (t:=false) j h
def W.cnSZ{f:FuncId}(h:K .normal fr s)(j:ev fr.env o=some (.bool false):=by simp only[aA,aj,Nat.reduceBEq,cT,cF, *]):W Q f (.cond o a .skip) fr s K:=W.cond (t:=false) j (W.skip h)
