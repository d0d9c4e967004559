/- Lemmas for ValidShown. -/
import Derived.Test.YtnnppcoplinajaaGreatAg2
import Derived.Attr
import Derived.KernelRfl
set_option linter.all false
open Bool renaming and_eq_true→bq,and_true→mY,not_eq_true'→oA,or_eq_true→uj,or_false→jG
open Go.Ag.Ex renaming next→rB
open Go.Ag.cW renaming meets→xJ
open List renaming all_eq_true→fD,append_nil→ky,cons_append→sP,getElem?_cons_succ→mg,getElem?_cons_zero→kz,getElem?_eq_getElem→gB,length_append→de,length_cons→cX,length_map→bU,length_nil→ct,mem_cons_self→fE,mem_cons→dG,mem_range→xP,nil_append→vR,nodup_cons→BK
open Nat renaming beq→aK,ble_eq_true_of_le→cN,ble→bu,blt→bh,eq_of_beq_eq_true→jI,le_of_ble_eq_true→fF,le_succ_of_le→bW,reduceBEq→ai,zero_add→eM
open Option renaming bind_eq_some_iff→ak,bind_some→bk,getD_some→BM,map_none→sV,map_some→jZ
open Option.some renaming injEq→aM
open Prod.mk renaming injEq→bC
open Go.Ag.W renaming cond→ib,seq→cC,skip→kO
namespace Go.Ag
variable{fr:Fr}{N:Fr->Prop}{fn:Func}{bs:List Nat}{args:List aa}{l ops:List ay}{rs:List eZ}{op:Op}{a c sc:SC}{α:Type}{v:aa}{o:ay}
section
variable{Q:aF}{f:FuncId}
def vk(x:Option (aa×Loc×St))(K:aa->Loc->St->Prop):Prop:=
 match x with
 |some (v,l,s)=>K v l s
 |none=>False
def abo(v:aa)(l:Loc)(s:St)(K:aa->Loc->St->Prop):vk (some (v,l,s)) K=K v l s:=rfl
def abn(K:aa->Loc->St->Prop):vk none K=False:=rfl
def WP(Q:aF)(f:FuncId)(ops:List ay)(fr:Fr)(s:St)(N:Fr->St->Prop):Prop:= ∃j s',vA Q f ops fr s=some (j,s')/\N j s'
theorem Eh{s:St}{N:Fr->St->Prop}:WP Q f [] fr s N=N fr s:=by
 apply propext;constructor;rintro⟨j,s',h,q⟩
 grind [vA]
 exact fun h=>⟨fr,s,rfl,h⟩
theorem Hh{s:St}{N:Fr->St->Prop}:WP Q f (o::l) fr s N=(∃j s1,sK Q f o fr s=some (j,s1)/\WP Q f l j s1 N):=by
 apply propext;constructor;rintro⟨q,s',h,u⟩;simp only[vA,ak] at h;obtain⟨⟨j,s1⟩,A,w⟩:=h;exact⟨j,s1,A,q,s',w,u⟩;rintro⟨j,s1,A,q,s',w,u⟩;refine⟨q,s',?_,u⟩;simp only[vA,A,bk,w]
theorem Ue{d:Tmp}{g:SG}{e:aw}{sz:Nat}{lc:Loc}{s:St}{N:Fr->St->Prop}(q:eY e g=true):
 WP Q f (⟨some d,op,g⟩::l) ⟨e,sz,lc⟩ s N=vk (cy Q f ⟨some d,op,g⟩ [] ⟨e,sz,lc⟩ s) fun v j s'=>d<sz/\WP Q f l ⟨e.set d (some v),sz,j⟩ s' N:=by
 rw[Hh];simp only[sK,q,cT];cases h:cy Q f ⟨some d,op,g⟩ [] ⟨e,sz,lc⟩ s with
 |none=>simp[vk]
 |some x=>
  grind [vk,cR,bh,cN,fF]
theorem Uf{g:SG}{e:aw}{sz:Nat}{lc:Loc}{s:St}{N:Fr->St->Prop}(q:eY e g=true):
 WP Q f (⟨none,op,g⟩::l) ⟨e,sz,lc⟩ s N=vk (cy Q f ⟨none,op,g⟩ [] ⟨e,sz,lc⟩ s) fun _ j s'=>WP Q f l ⟨e,sz,j⟩ s' N:=by
 rw[Hh];simp only[sK,q,cT];cases h:cy Q f ⟨none,op,g⟩ [] ⟨e,sz,lc⟩ s with
 |none=>simp[vk]
 |some x=>
  grind [vk,cR]
theorem Ug{d:Tmp}{g:SG}{e:aw}{sz:Nat}{lc:Loc}{s:St}{N:Fr->St->Prop}(j:eY e g=false):
 WP Q f (⟨some d,op,g⟩::l) ⟨e,sz,lc⟩ s N=(d<sz/\WP Q f l ⟨e.set d (some fL),sz,lc⟩ s N):=by
 rw[Hh];simp only[sK,j,cF,cR]
 grind [bh,cN,fF]
theorem afP{g:SG}{e:aw}{sz:Nat}{lc:Loc}{s:St}{N:Fr->St->Prop}(j:eY e g=false):
 WP Q f (⟨none,op,g⟩::l) ⟨e,sz,lc⟩ s N=WP Q f l ⟨e,sz,lc⟩ s N:=by
 grind [Hh,sK,cR]
theorem ja(a b:Nat):aK a b=(a==b):=by
 grind [jI,Nat.ne_of_beq_eq_false]
theorem ol(a b:Nat):bh a b=decide (a<b):=by
 grind [bh,fF,cN]
def JG(a b:Nat):bu a b=decide (a<=b):=tW a b
theorem pO(k:IntKind)(n:Nat):dv (.int k (n:Int))=some n:=rfl
def ku:aa->Bool->Bool
 | .bool c,b=>c==b
 |_,_=>false
theorem qg(e:aw)(t:Tmp)(b:Bool):eY e (.when t b)=ku (ac e t) b:=by
 show(match ac e t with| .bool c=>c==b|_=>false)=ku (ac e t) b;generalize ac e t=x;cases x<;>rfl
def aeA:ku (.bool true) true=true:=rfl
def aez:ku (.bool true) false=false:=rfl
def aey:ku (.bool false) true=false:=rfl
def aex:ku (.bool false) false=true:=rfl
def aeB(b:Bool):ku fL b=false:=rfl
def Rb:aa->Option aa->Option aa->Option aa
 | .bool true,a,_=>a
 | .bool false,_,b=>b
 |_,_,_=>none
def acw(e:aw)(c a b:Operand):Bg e c a b=(ev e c).bind fun c=>Rb c (ev e a) (ev e b):=by
 unfold Bg;cases ev e c with
 |none=>rfl
 |some v=>
  cases v<;>first|rfl|skip
  rename_i c;cases c<;>rfl
def acv(a b:Option aa):Rb (.bool true) a b=a:=rfl
def acu(a b:Option aa):Rb (.bool false) a b=b:=rfl
def Wm(e:aw)(x:Operand):evc e x=(ev e x).bind fun v=>bif v.ge then some v else none:=rfl
def RC(v:aa)(l:Loc)(s:St):eX (some v) l s=some (v,l,s):=rfl
def acW(v:aa)(l:Loc)(s:St):f9 (some (v,s)) l=some (v,l,s):=rfl
def acV(l:Loc)(s:St):nN (some s) l=some (fL,l,s):=rfl
def U1(P:Program)(t:TypeId)(a b:Int):dz P .lss t (.int .i64 a) (.int .i64 b)=some (.bool (aX a b)):=rfl
def U0(P:Program)(t:TypeId)(a b:Int):dz P .leq t (.int .i64 a) (.int .i64 b)=some (.bool (b9 a b)):=rfl
def UZ(P:Program)(t:TypeId)(a b:Int):dz P .gtr t (.int .i64 a) (.int .i64 b)=some (.bool (aX b a)):=rfl
def ni(P:Program)(t:TypeId)(a b:Int):dz P .geq t (.int .i64 a) (.int .i64 b)=some (.bool (b9 b a)):=rfl
def UY(P:Program)(t:TypeId)(a b:Int):dz P .eql t (.int .i64 a) (.int .i64 b)=some (.bool (an a b)):=rfl
def U2(P:Program)(t:TypeId)(a b:Int):dz P .neq t (.int .i64 a) (.int .i64 b)=some (.bool (!an a b)):=rfl
def UX(P:Program)(t:TypeId)(a b:Int):dz P .add t (.int .i64 a) (.int .i64 b)=some (.int .i64 (IntKind.i64.wrap (a+b))):=rfl
def U3(P:Program)(t:TypeId)(a b:Int):dz P .sub t (.int .i64 a) (.int .i64 b)=some (.int .i64 (IntKind.i64.wrap (a-b))):=rfl
def Vf(P:Program)(t:TypeId)(a b:Int):dz P .eql t (.int .u8 a) (.int .u8 b)=some (.bool (an a b)):=rfl
def Vh(P:Program)(t:TypeId)(a b:Int):dz P .neq t (.int .u8 a) (.int .u8 b)=some (.bool (!an a b)):=rfl
def Vg(P:Program)(t:TypeId)(a b:Int):dz P .leq t (.int .u8 a) (.int .u8 b)=some (.bool (b9 a b)):=rfl
def Vb(P:Program)(t:TypeId)(a b:List UInt8):dz P .eql t (.str a) (.str b)=some (.bool (a==b)):=rfl
def Ve(P:Program)(t:TypeId)(a b:List UInt8):dz P .neq t (.str a) (.str b)=some (.bool (!(a==b))):=rfl
def Vc(P:Program)(t:TypeId)(a b:List UInt8):dz P .leq t (.str a) (.str b)=some (.bool (leBytes a b)):=rfl
def Vd(P:Program)(t:TypeId)(a b:List UInt8):dz P .lss t (.str a) (.str b)=some (.bool (Op.bytesLess a b)):=rfl
def aen(b:Bool):Bx .not (.bool b)=some (.bool !b):=rfl
def U5(P:Program)(mk:aH)(t:TypeId)(j:Bool)(x:aa)(s:St):jg P mk .len [t] j [x] s=(iM P mk t x s).bind fun v=>some (v,s):=rfl
def U4(P:Program)(mk:aH)(t j:TypeId)(q:Bool)(x y:aa)(s:St):jg P mk .append [t,j] q [x,y] s=bif r9 P j then eU P mk t x y q s else none:=rfl
def Xh(h:Tmp->Nat)(t:Tmp):oX h (some t)=h t:=rfl
def VF(b:Bool):(aa.bool b).ge=true:=rfl
def VH(k:IntKind)(n:Int):(aa.int k n).ge=true:=rfl
def VP(b:List UInt8):(aa.str b).ge=true:=rfl
def VD(b:List aa):(aa.agg b).ge=true:=rfl
def VI(n:Nat)(b:List aa)(r:lJ):(aa.list n b r).ge=true:=rfl
def VO(b:List aa):(aa.ro b).ge=true:=rfl
def VN(n o:Nat):(aa.ptr n o).ge=true:=rfl
def VJ(n:Nat):(aa.map n).ge=true:=rfl
def VM:(aa.Ge).ge=true:=rfl
def VL:(aa.nilm).ge=true:=rfl
def VK:(aa.nilf).ge=true:=rfl
def Ar(f:Fn)(a b:List aa):(aa.func f a b).ge=true:=rfl
theorem lO(cs:List aa):(aa.agg cs).cells=cs:=rfl
def Vt(s:List UInt8):(aa.str s).cells=[.str s]:=rfl
def Vs(k:IntKind)(n:Int):(aa.int k n).cells=[.int k n]:=rfl
def Vr(b:Bool):(aa.bool b).cells=[.bool b]:=rfl
def ME(n:Nat)(xs:List aa)(r:lJ):(aa.list n xs r).cells=[.list n xs r]:=rfl
def adR(P:Program)(mk:aH)(t:TypeId)(l g off:Nat)(v:aa)(lc:Loc)(s:St):ub P mk t (.Gt l g off) v lc s=(dh P t).bind fun n=>bif aK v.cells.length n&&bh 0 n then(lc.get l g).bind fun cs=>(eR cs off v.cells).bind fun j=>some (lc.set l g j,s) else none:=rfl
def au{α:Type}(n:Nat)(enc:α->aa)(v:aa)(l:List α):Prop:=(v= .Ge/\l=[])\/ ∃r,v= .list n (l.map enc) r
def au.ge{n:Nat}{enc:α->aa}{l:List α}(h:au n enc v l):v.ge=true:=by
 rcases h with⟨rfl,_⟩|⟨r,rfl⟩<;>rfl
theorem au.scal{n:Nat}{enc:α->aa}{l:List α}(h:au n enc v l):v.cells=[v]:=by
 rcases h with⟨rfl,_⟩|⟨r,rfl⟩<;>rfl
def au.cs{n:Nat}{enc:α->aa}{l:List α}(h:au n enc v l):v.ge=true/\v.cells=[v]:=⟨h.ge,h.scal⟩
def aa6{α:Type}(enc:α->aa): ∀(l:List α) (i:Nat) (a:α),l[i]? =some a->nF (l.map enc) i=enc a
 | [],i,a,h=>by simp at h
 |x::l,0,a,h=>by simp at h;subst h;rfl
 |x::l,i+1,a,h=>aa6 enc l i a (by simpa using h)
def au.len{n:Nat}{enc:α->aa}{l:List α}(h:au n enc v l){P:Program}{t:TypeId}(q: ∀mk s,iM P mk t .Ge s=some (.int .i64 (0:Nat)))(j: ∀mk n xs r s,iM P mk t (.list n xs r) s=some (.int .i64 (xs:List aa).length))(mk:aH)(s:St):iM P mk t v s=some (.int .i64 (l.length:Nat)):=by
 rcases h with⟨rfl,rfl⟩|⟨r,rfl⟩
 rw[q];rfl;rw[j];simp
theorem au.at{n:Nat}{enc:α->aa}{l:List α}(h:au n enc v l){P:Program}{t:TypeId}(u: ∀lc m xs r i,gS P lc t (.list m xs r) i=(dv i).bind fun i=>bif aK m n&&bh i xs.length then some (.ro (nF xs i).cells) else none){i:Nat}{a:α}(q:l[i]? =some a)(lc:Loc)(k:IntKind):
 gS P lc t v (.int k (i:Int))=some (.ro (enc a).cells):=by
 have j:i<l.length:=by
  rcases Nat.lt_or_ge i l.length with h|h
  exact h
  grind
 rcases h with⟨rfl,rfl⟩|⟨r,rfl⟩
 simp at q;rw[u];simp only[pO,bk,aa6 enc l i a q,bU];have:bh i l.length=true:=cN j;simp[this]
theorem QB(e:aw)(t:Nat)(v:aa):ac (e.set t (some v)) t=v:=by simp[ac,QV]
theorem JN(e:aw)(t u:Nat)(v:aa)(h:(u==t)=false):ac (e.set t (some v)) u=ac e u:=by
 grind [ac,aD.get_set]
theorem iQ(e:aw)(t u:Nat)(v:aa):ac (e.set t (some v)) u=bif u==t then v else ac e u:=by
 grind [QB,JN]
theorem gen_set(l:Loc)(t h u:Nat)(c:List aa):(l.set t h c).gen u=bif aK t u then h else l.gen u:=by
 induction l with
 |nil=>simp only[Loc.set,Loc.gen]
 |cons x l j=>
  grind [Loc.set,jI,Loc.gen]
def uY(t:Nat):Loc.gen [] t=0:=rfl
theorem ak5(l:Loc)(t h:Nat)(c:List aa):(l.set t h c).gen t=h:=by simp[gen_set]
theorem ak6(l:Loc)(t h u:Nat)(c:List aa)(e:(u==t)=false):(l.set t h c).gen u=l.gen u:=by
 grind [gen_set,jI]
theorem aai(l:Loc)(t h u g:Nat)(c:List aa):(l.set t h c).get u g=bif aK t u then(bif aK h g then some c else none) else l.get u g:=by
 induction l with
 |nil=>simp only[Loc.set,Loc.get]
 |cons x l j=>
  grind [Loc.set,jI,Loc.get]
theorem ass(l:Loc)(t h u g:Nat)(c:List aa)(e:(u==t)=false):(l.set t h c).get u g=l.get u g:=by
 grind [aai,jI]
theorem aaj(l:Loc)(t h j:Nat)(c c':List aa):(l.set t h c).set t j c'=l.set t j c':=by
 induction l with
 |nil=>simp[Loc.set]
 |cons x l q=>
  grind [Loc.set]
theorem fQ(l:Loc)(t h u:Nat)(c:List aa):(l.set t h c).gen u=bif u==t then h else l.gen u:=by
 grind [ak5,ak6]
def f7(l:Loc)(t h u g:Nat)(c:List aa):(l.set t h c).get u g=bif u==t then(bif g==h then some c else none) else l.get u g:=by
 cases e:u==t with
 |true=>
  have:u=t:=by simpa using e
  subst this;rw[aai];simp only[cT];cases e:g==h with
  |true=>simp_all
  |false=>
   have j:g≠h:=by simpa using e
   have:aK h g=false:=by
    cases e':aK h g with
    |false=>rfl
    |true=>simp_all
   simp[this]
 |false=>exact ass l t h u g c e
def KJ(Q:aF)(f:FuncId)(d:Tmp)(e:aw)(sz:Nat)(l:List ay)(N:Fr->St->Prop)(x:Option (aa×Loc×St)):Prop:=vk x fun v j s'=>d<sz/\WP Q f l ⟨e.set d (some v),sz,j⟩ s' N
def KK(Q:aF)(f:FuncId)(e:aw)(sz:Nat)(l:List ay)(N:Fr->St->Prop)(x:Option (aa×Loc×St)):Prop:=vk x fun _ j s'=>WP Q f l ⟨e,sz,j⟩ s' N
def SF(Q:aF)(f:FuncId)(o:ay)(d:Tmp)(e:aw)(sz:Nat)(lc:Loc)(s:St)(l:List ay)(N:Fr->St->Prop):Bool->Prop
 |true=>KJ Q f d e sz l N (cy Q f o [] ⟨e,sz,lc⟩ s)
 |false=>d<sz/\WP Q f l ⟨e.set d (some fL),sz,lc⟩ s N
def SH(Q:aF)(f:FuncId)(o:ay)(e:aw)(sz:Nat)(lc:Loc)(s:St)(l:List ay)(N:Fr->St->Prop):Bool->Prop
 |true=>KK Q f e sz l N (cy Q f o [] ⟨e,sz,lc⟩ s)
 |false=>WP Q f l ⟨e,sz,lc⟩ s N
def Sb{d:Tmp}{e:aw}{sz:Nat}{N:Fr->St->Prop}{lc:Loc}{s:St}:KJ Q f d e sz l N (some (v,lc,s))=(d<sz/\WP Q f l ⟨e.set d (some v),sz,lc⟩ s N):=rfl
def adM{e:aw}{sz:Nat}{N:Fr->St->Prop}{lc:Loc}{s:St}:KK Q f e sz l N (some (v,lc,s))=WP Q f l ⟨e,sz,lc⟩ s N:=rfl
def aeF{d:Tmp}{e:aw}{sz:Nat}{lc:Loc}{s:St}{N:Fr->St->Prop}:SF Q f o d e sz lc s l N true=KJ Q f d e sz l N (cy Q f o [] ⟨e,sz,lc⟩ s):=rfl
def aeE{d:Tmp}{e:aw}{sz:Nat}{lc:Loc}{s:St}{N:Fr->St->Prop}:SF Q f o d e sz lc s l N false=(d<sz/\WP Q f l ⟨e.set d (some fL),sz,lc⟩ s N):=rfl
def aeD{e:aw}{sz:Nat}{lc:Loc}{s:St}{N:Fr->St->Prop}:SH Q f o e sz lc s l N true=KK Q f e sz l N (cy Q f o [] ⟨e,sz,lc⟩ s):=rfl
def aeC{e:aw}{sz:Nat}{lc:Loc}{s:St}{N:Fr->St->Prop}:SH Q f o e sz lc s l N false=WP Q f l ⟨e,sz,lc⟩ s N:=rfl
def LK{d:Tmp}{e:aw}{sz:Nat}{lc:Loc}{s:St}{N:Fr->St->Prop}:
 WP Q f (⟨some d,op,.aw⟩::l) ⟨e,sz,lc⟩ s N=KJ Q f d e sz l N (cy Q f ⟨some d,op,.aw⟩ [] ⟨e,sz,lc⟩ s):=Ue rfl
def Ud{e:aw}{sz:Nat}{lc:Loc}{s:St}{N:Fr->St->Prop}:
 WP Q f (⟨none,op,.aw⟩::l) ⟨e,sz,lc⟩ s N=KK Q f e sz l N (cy Q f ⟨none,op,.aw⟩ [] ⟨e,sz,lc⟩ s):=Uf rfl
def afO{d:Tmp}{e:aw}{sz:Nat}{lc:Loc}{s:St}{N:Fr->St->Prop}:
 WP Q f (⟨some d,op,.never⟩::l) ⟨e,sz,lc⟩ s N=(d<sz/\WP Q f l ⟨e.set d (some fL),sz,lc⟩ s N):=Ug rfl
def Uh{d:Tmp}{t:Tmp}{b:Bool}{e:aw}{sz:Nat}{lc:Loc}{s:St}{N:Fr->St->Prop}:
 WP Q f (⟨some d,op,.when t b⟩::l) ⟨e,sz,lc⟩ s N=SF Q f ⟨some d,op,.when t b⟩ d e sz lc s l N (ku (ac e t) b):=by
 cases h:ku (ac e t) b with
 |true=>exact Ue (by rw[qg,h])
 |false=>exact Ug (by rw[qg,h])
def afQ{t:Tmp}{b:Bool}{e:aw}{sz:Nat}{lc:Loc}{s:St}{N:Fr->St->Prop}:
 WP Q f (⟨none,op,.when t b⟩::l) ⟨e,sz,lc⟩ s N=SH Q f ⟨none,op,.when t b⟩ e sz lc s l N (ku (ac e t) b):=by
 cases h:ku (ac e t) b with
 |true=>exact Uf (by rw[qg,h])
 |false=>exact afP (by rw[qg,h])
def W.reg{s:St}{K:Ex->Fr->St->Prop}(h:WP Q f ops fr s fun fr s=>K .normal fr s):W Q f (.region ops) fr s K:=
 let⟨_,_,h1,h2⟩:=h;W.region (WL.run h1 h2)
def W.sreg{s:St}{K:Ex->Fr->St->Prop}(h:WP Q f ops fr s fun fr s=>W Q f c fr s K):W Q f (.seq (.region ops) c) fr s K:=cC (W.reg h)
def W.sseq{b:SC}{s:St}{K:Ex->Fr->St->Prop}(h:W Q f a fr s (rB K fun fr s=>W Q f b fr s K)):W Q f (.seq a b) fr s K:=cC h
def fe(K:Ex->Fr->St->Prop)(N:Fr->St->Prop):rB K N .normal=N:=rfl
def Qy(K:Ex->Fr->St->Prop)(N:Fr->St->Prop):rB K N .ret=K .ret:=rfl
def aaW(K:Ex->Fr->St->Prop)(N:Fr->St->Prop)(i:Nat):rB K N (.exit i)=K (.exit i):=rfl
def qA(i:Nat):Ex.block i .normal= .normal:=rfl
def Mr(i:Nat):Ex.block i .ret= .ret:=rfl
def U8(i j:Nat):Ex.block i (.exit j)=bif aK j i then .normal else .exit j:=rfl
section
variable{e:aw}{sz:Nat}{lc:Loc}{s:St}{d:Option Tmp}{g:SG}{mk:aH}
def aci(x:Operand):cy Q f ⟨d,.move x,g⟩ mk ⟨e,sz,lc⟩ s=eX (ev e x) lc s:=rfl
def QZ(x:Operand):cy Q f ⟨d,.assign x,g⟩ mk ⟨e,sz,lc⟩ s=eX (ev e x) lc s:=rfl
def ack(c a b:Operand):cy Q f ⟨d,.pick c a b,g⟩ mk ⟨e,sz,lc⟩ s=eX (Bg e c a b) lc s:=rfl
def ab1(t:TypeId):cy Q f ⟨d,.alloc t,g⟩ mk ⟨e,sz,lc⟩ s=(ei Q.P t).bind fun z=>rQ (oX (Q.hint f) d) d z.cells lc s:=rfl
def ab3(t:TypeId)(x:Operand):cy Q f ⟨d,.box t x,g⟩ mk ⟨e,sz,lc⟩ s=(evc e x).bind fun a=>rQ (oX (Q.hint f) d) d a.cells lc s:=rfl
def ab4(t:TypeId)(ps:Array (Nat×Operand)):cy Q f ⟨d,.build t ps,g⟩ mk ⟨e,sz,lc⟩ s=eX (tl Q.P t ps.toList e) lc s:=rfl
def ab5(t:TypeId)(n:Nat)(ps:Array (Nat×Operand)):cy Q f ⟨d,.buildSlice t n ps,g⟩ mk ⟨e,sz,lc⟩ s=f9 (bf Q.P t n ps.toList (aK (oX (Q.hint f) d) 2) e s) lc:=rfl
def ace(t:TypeId)(a:Operand):cy Q f ⟨d,.load t a,g⟩ mk ⟨e,sz,lc⟩ s=(ev e a).bind fun a=>eX (lS Q.P mk t a lc s) lc s:=rfl
def acm(t:TypeId)(a x:Operand):cy Q f ⟨d,.store t a x,g⟩ mk ⟨e,sz,lc⟩ s=(ev e a).bind fun a=>(evc e x).bind fun x=>(ub Q.P mk t a x lc s).bind fun r=>some (fL,r.1,r.2):=rfl
def ab2(o:BinOp)(t u:TypeId)(x y:Operand):cy Q f ⟨d,.binOp o t x y u,g⟩ mk ⟨e,sz,lc⟩ s=(evc e x).bind fun x=>(evc e y).bind fun y=>eX (dz Q.P o t x y) lc s:=rfl
def acn(o:UnOp)(t:TypeId)(x:Operand):cy Q f ⟨d,.unOp o t x,g⟩ mk ⟨e,sz,lc⟩ s=(evc e x).bind fun a=>eX (Bx o a) lc s:=rfl
def ab9(t:TypeId)(x:Operand)(i:Nat):cy Q f ⟨d,.field t x i,g⟩ mk ⟨e,sz,lc⟩ s=(evc e x).bind fun a=>eX (wD Q.P t a i) lc s:=rfl
def aca(t:TypeId)(x:Operand)(i:Nat):cy Q f ⟨d,.fieldAddr t x i,g⟩ mk ⟨e,sz,lc⟩ s=(ev e x).bind fun a=>eX (tz Q.P lc t a i) lc s:=rfl
def acb(t:TypeId)(x i:Operand):cy Q f ⟨d,.index t x i,g⟩ mk ⟨e,sz,lc⟩ s=(evc e x).bind fun x=>(ev e i).bind fun i=>eX (AO Q.P t x i) lc s:=rfl
def acd(t:TypeId)(x i:Operand):cy Q f ⟨d,.indexAddr t x i,g⟩ mk ⟨e,sz,lc⟩ s=(ev e x).bind fun x=>(ev e i).bind fun i=>eX (gS Q.P lc t x i) lc s:=rfl
def Q7(t:TypeId)(x:Operand)(lo q j:Option Operand):cy Q f ⟨d,.slice t x lo q j,g⟩ mk ⟨e,sz,lc⟩ s=(evc e x).bind fun a=>eX (jd Q.P mk t a lo q j e s) lc s:=rfl
def acf(t:TypeId)(x i:Operand)(j:Bool):cy Q f ⟨d,.lookup t x i j,g⟩ mk ⟨e,sz,lc⟩ s=(evc e x).bind fun x=>(evc e i).bind fun i=>eX (oe Q.P mk t x i j s) lc s:=rfl
def Q8(t:TypeId)(m k x:Operand):cy Q f ⟨d,.mapUpdate t m k x,g⟩ mk ⟨e,sz,lc⟩ s=(evc e m).bind fun m=>(evc e k).bind fun k=>(evc e x).bind fun x=>nN (rz Q.P mk t m k x s) lc:=rfl
def ach(t:TypeId)(r:Option Operand):cy Q f ⟨d,.makeMap t r,g⟩ mk ⟨e,sz,lc⟩ s=f9 (mJ Q.P t e r s) lc:=rfl
def acg(fn:Fn)(a b:Array Operand):cy Q f ⟨d,.makeFunc fn a b,g⟩ mk ⟨e,sz,lc⟩ s=eX (nC e fn a b) lc s:=rfl
def acj(x:Operand):cy Q f ⟨d,.nilCheck x,g⟩ mk ⟨e,sz,lc⟩ s=(ev e x).bind fun a=>eX (w8 lc a) lc s:=rfl
def ab8(x:Operand)(i:Nat):cy Q f ⟨d,.extract x i,g⟩ mk ⟨e,sz,lc⟩ s=(ev e x).bind fun a=>eX (eA i a) lc s:=rfl
def ab6(b:Builtin)(as:Array Operand)(ts:Array TypeId):cy Q f ⟨d,.call ⟨.builtin b,as,ts⟩,g⟩ mk ⟨e,sz,lc⟩ s=
 (evcs e as.toList).bind fun args=>f9 (jg Q.P mk b ts.toList (aK (oX (Q.hint f) d) 2) args s) lc:=rfl
def ab7(x:Operand)(as:Array Operand)(ts:Array TypeId):cy Q f ⟨d,.call ⟨.value x,as,ts⟩,g⟩ mk ⟨e,sz,lc⟩ s=
 (callee e ⟨.value x,as,ts⟩).bind fun g=>(Q.spec g.1).bind fun sp=>(sp g.2).bind fun v=>some (v,lc,s):=rfl
def Vn(n:FuncId)(as:Array Operand)(ts:Array TypeId):callee e ⟨.value (.func n),as,ts⟩=(evcs e as.toList).bind fun args=>some (n,args):=by
 simp only[callee,ev,bk,vR,ky]
end
def dA(e:aw)(t:Nat):ev e (.tmp t)=some (ac e t):=rfl
def Nf(e:aw)(v:Value):ev e (.const v)=ofValue v:=rfl
def Wl(e:aw)(n:FuncId):ev e (.func n)=some (.func (.func n) [] []):=rfl
def Wo(e:aw):evcs e []=some []:=rfl
def Wn(e:aw)(x:Operand)(l:List Operand):evcs e (x::l)=(evc e x).bind fun v=>(evcs e l).bind fun r=>some (v::r):=rfl
def pd(b:Bool):ofValue (.bool b)=some (.bool b):=rfl
def nH(k:IntKind)(n:Int):ofValue (.int k n)=some (.int k n):=rfl
def FV(s:Array UInt8):ofValue (.string ⟨s⟩)=some (.str s.toList):=rfl
def Va(t:Tmp)(cs:List aa)(lc:Loc)(s:St):rQ 1 (some t) cs lc s=some (.Gt t (lc.gen t+1) 0,lc.set t (lc.gen t+1) cs,s):=rfl
def U9(d:Option Tmp)(cs:List aa)(lc:Loc)(s:St):rQ 0 d cs lc s=some (.ptr s.aL 0,lc,s.new (.cells cs)):=rfl
def aab(P:Program)(mk:aH)(t:TypeId)(l g off:Nat)(lc:Loc)(s:St):lS P mk t (.Gt l g off) lc s=(lc.get l g).bind fun cs=>iC P t cs off:=rfl
def Jy(P:Program)(mk:aH)(t:TypeId)(cs:List aa)(lc:Loc)(s:St):lS P mk t (.ro cs) lc s=iC P t cs 0:=rfl
def yG(a b:Nat):aX (a:Int) (b:Int)=decide (a<b):=by simp[aX]
def H4(a b:Nat):b9 (a:Int) (b:Int)=decide (a<=b):=by simp[b9]
theorem AN(a b:Nat):an (a:Int) (b:Int)=(a==b):=by
 grind [an]
theorem jf{z:Int}(q: -9223372036854775808<=z)(j:z<9223372036854775808):IntKind.i64.wrap z=z:=by
 rw[IntKind.wrap_i64];omega
def St.top(s:St):St:=⟨s.heap,s.aL,s.aL,s.ci⟩
def WQ(Q:aF)(f:FuncId)(s:St):List ay->Fr->(Fr->Prop)->Prop
 | [],fr,N=>N fr
 |o::l,fr,N=>(eY fr.env o.g=true/\ ∃v lc j,cy Q f o [] fr s=some (v,lc,s)/\isStore o.op=false/\cR fr o.dst v lc=some j/\WQ Q f s l j N)\/
   (eY fr.env o.g=false/\ ∃j,cR fr o.dst fL fr.loc=some j/\WQ Q f s l j N)
def calm(rs:List eZ):Prop:= ∀r∈rs,r.c0=r.c1/\r.loud=false
def aaA(h:calm rs)(b:Nat):iO b rs []=[]:=by
 induction rs with
 |nil=>rfl
 |cons r rs j=>
  have:=h r (by simp);simp only[iO,this.1,ja,bS,Bool.or_true,cT];exact j fun r q=>h r (by simp[q])
def Wz(h:calm rs)(b:Nat)(ft:cW):pJ b ft false rs=true:=by
 simp only[pJ,fD];intro r j;simp[(h r j).2]
def WQ.draw{s:St}(w:s.gE<=s.aL): ∀ {l:List ay} {bs:List Nat} {rs:List eZ} {i:Nat} {fr:Fr} {N:Fr->Prop},calm rs->WQ Q f s.top l fr N-> ∃j,zu Q f bs rs i l fr s=some (j,s)/\N j
 | [],bs,rs,i,fr,N,_,h=>⟨fr,rfl,h⟩
 |o::l,bs,rs,i,fr,N,hc,h=>by
  simp only[zu];rcases h with⟨q,v,lc,j,D,G,B,A⟩|⟨q,j,B,A⟩
  rw[q,aaA hc];have D:cy Q f o [] fr ⟨s.heap,s.aL,s.aL,s.ci⟩=some (v,lc,⟨s.heap,s.aL,s.aL,s.ci⟩):=D;simp only[cT,D,bk,G,jG];have F:bh s.aL s.aL=false:=by rw[ol];simp
  have E:s.GE ⟨s.heap,s.aL,s.aL,s.ci⟩=s:=by
   have:bu s.gE s.aL=true:=cN w;simp[St.GE,this]
  rw[F,Wz hc,ja,bS];simp only[mY,cT,B,bk,E];exact WQ.draw w (fun r u=>by
   rcases dG.1 u with rfl|u
   exact⟨rfl,rfl⟩;exact hc r u) A
  rw[q];simp only[cF,B,bk];exact WQ.draw w hc A
def W.drawQ{s:St}{K:Ex->Fr->St->Prop}(u:s.gE<=s.aL)(h:WQ Q f s.top ops fr fun j=>K .normal j s):W Q f (.draw ops bs) fr s K:=
 let⟨_,h1,h2⟩:=WQ.draw u (fun _ q=>by cases q) h;W.draw h1 h2
def W.sdrawQ{s:St}{K:Ex->Fr->St->Prop}(q:s.gE<=s.aL)(h:WQ Q f s.top ops fr fun j=>W Q f c j s K):W Q f (.seq (.draw ops bs) c) fr s K:=cC (W.drawQ q h)
def KL(Q:aF)(f:FuncId)(s:St)(d:Tmp)(j:Bool)(e:aw)(sz:Nat)(l:List ay)(N:Fr->Prop)(x:Option (aa×Loc×St)):Prop:= ∃v lc,x=some (v,lc,s)/\j=false/\d<sz/\WQ Q f s l ⟨e.set d (some v),sz,lc⟩ N
theorem adN{s:St}{d:Tmp}{j:Bool}{e:aw}{sz:Nat}{lc:Loc}:KL Q f s d j e sz l N (some (v,lc,s))=(j=false/\d<sz/\WQ Q f s l ⟨e.set d (some v),sz,lc⟩ N):=by
 apply propext;constructor;rintro⟨B,A,h,w,u,q⟩
 grind
 rintro⟨w,u,q⟩;exact⟨v,lc,rfl,w,u,q⟩
def SI(Q:aF)(f:FuncId)(s:St)(o:ay)(d:Tmp)(e:aw)(sz:Nat)(lc:Loc)(l:List ay)(N:Fr->Prop):Bool->Prop
 |true=>KL Q f s d (isStore o.op) e sz l N (cy Q f o [] ⟨e,sz,lc⟩ s)
 |false=>d<sz/\WQ Q f s l ⟨e.set d (some fL),sz,lc⟩ N
def aeH{s:St}{d:Tmp}{e:aw}{sz:Nat}{lc:Loc}:SI Q f s o d e sz lc l N true=KL Q f s d (isStore o.op) e sz l N (cy Q f o [] ⟨e,sz,lc⟩ s):=rfl
def aeG{s:St}{d:Tmp}{e:aw}{sz:Nat}{lc:Loc}:SI Q f s o d e sz lc l N false=(d<sz/\WQ Q f s l ⟨e.set d (some fL),sz,lc⟩ N):=rfl
theorem fS{e:aw}{sz:Nat}{lc:Loc}{d:Tmp}{lc':Loc}{j:Fr}:cR ⟨e,sz,lc⟩ (some d) v lc'=some j↔d<sz/\j=⟨e.set d (some v),sz,lc'⟩:=by
 grind [cR,ol]
def Uj{s:St}:WQ Q f s [] fr N=N fr:=rfl
def Ui{s:St}{d:Tmp}{e:aw}{sz:Nat}{lc:Loc}:
 WQ Q f s (⟨some d,op,.aw⟩::l) ⟨e,sz,lc⟩ N=KL Q f s d (isStore op) e sz l N (cy Q f ⟨some d,op,.aw⟩ [] ⟨e,sz,lc⟩ s):=by
 apply propext;constructor;rintro(⟨_,v,j,E,A,w,D,u⟩|⟨B,_⟩);obtain⟨q,rfl⟩:=fS.1 D;exact⟨v,j,A,w,q,u⟩;cases B;rintro⟨v,j,A,w,q,u⟩;exact .inl ⟨rfl,v,j,_,A,w,fS.2 ⟨q,rfl⟩,u⟩
theorem Uk{s:St}{d:Tmp}{t:Tmp}{b:Bool}{e:aw}{sz:Nat}{lc:Loc}:
 WQ Q f s (⟨some d,op,.when t b⟩::l) ⟨e,sz,lc⟩ N=SI Q f s ⟨some d,op,.when t b⟩ d e sz lc l N (ku (ac e t) b):=by
 apply propext;constructor;rintro(⟨j,v,q,E,D,B,A,w⟩|⟨j,E,A,w⟩);have j:eY e (.when t b)=true:=j;rw[qg] at j;obtain⟨u,rfl⟩:=fS.1 A;rw[j];exact⟨v,q,D,B,u,w⟩;have j:eY e (.when t b)=false:=j;rw[qg] at j;obtain⟨u,rfl⟩:=fS.1 A;rw[j];exact⟨u,w⟩;intro h;cases j:ku (ac e t) b with
 |true=>
  rw[j] at h;obtain⟨v,q,D,B,u,w⟩:=h;exact .inl ⟨by grind [qg],v,q,_,D,B,fS.2 ⟨u,rfl⟩,w⟩
 |false=>
  rw[j] at h;exact .inr ⟨by grind [qg],_,fS.2 ⟨h.1,rfl⟩,h.2⟩
def aq.of2{n:Nat}{rs:List ResultVar}{s s':St}(B:Q.P.funcs[f]? =some fn)(j:fn.body.map dY=some sc)(A:fn.ntmps=n)(w:fn.results.toList=rs)(q:Q.spec f=none)(h:W Q f sc (fP n args) s fun x u s1=>s1=s'/\(x= .normal\/x= .ret)/\ ∃vs,iE Q [] u s1 rs=some vs/\nK vs=v)(E:Q.specH f=none:=by rfl)(D:Q.specW f=none:=by rfl):aq Q f args s v s':=by
 cases hb:fn.body with
 |none=>rw[hb] at j;cases j
 |some c=>
  rw[hb] at j;simp only[jZ,aM] at j;subst A;subst w;exact aq.of B hb q j h E D
def dD{s:St}{t:Tmp}(h:ac fr.env t=v)(j:v.ge=true): ∃vs,iE Q [] fr s [.tmp t]=some vs/\nK vs=v:=by
 refine⟨[v],?_,rfl⟩;simp only[iE,Gp,evc,ev,h,bk,j,cT]
theorem aaz{b:Nat}(h: ∀r∈rs,b.testBit r.i=true\/r.c0=r.c1):iO b rs []=[]:=by
 induction rs with
 |nil=>rfl
 |cons r rs j=>
  grind [Qu,iO]
theorem aku{b:Nat}{ft:cW}{loud:Bool}(h: ∀r∈rs,b.testBit r.i=true):pJ b ft loud rs=true:=by
 grind [pJ]
def nA{s:St}(j:s.gE<=s.aL):s.GE s.top=s:=by
 simp_all [cN,St.GE,St.top]
theorem arK{s:St}(j:s.gE<=s.aL)(o:aJ):s.GE (s.top.new o)=s.new o:=by
 grind [cN,St.GE,St.top,St.new]
def W.drawR{fr1:Fr}{s s1:St}{K:Ex->Fr->St->Prop}(h:kE Q f bs [] 0 ops fr s fr1 s1)(hk:K .normal fr1 s1):W Q f (.draw ops bs) fr s K:=⟨_,_,_,.draw h,hk⟩
theorem WQ.thenD{s:St}(F:s.gE<=s.aL){l2:List ay}{N:Fr->St->Prop}: ∀ {l1:List ay} {bs:List Nat} {rs:List eZ} {i:Nat} {fr:Fr},calm rs->(∀r∈rs,r.i<i)->
 WQ Q f s.top l1 fr (fun I=> ∀q,calm q->(∀r∈q,r.i<i+l1.length)-> ∃j s',kE Q f (bs.drop l1.length) q (i+l1.length) l2 I s j s'/\N j s')-> ∃j s',kE Q f bs rs i (l1++l2) fr s j s'/\N j s'
 | [],bs,rs,i,fr,hc,hi,h=>h rs hc hi
 |o::l,bs,rs,i,fr,hc,hi,h=>by
  have G: ∀(bs:List Nat) (n:Nat),bs.tail.drop n=bs.drop (n+1):=fun bs n=>by cases bs<;>simp
  rcases h with⟨E,v,lc,j,S,O,H,M⟩|⟨E,j,H,M⟩
  have J:(bh s.top.gE s.aL||isStore o.op)=false:=by
   rw[O,jG,ol];exact dN (by show¬s.aL<s.aL;omega)
  obtain⟨u,A,D,B⟩:=WQ.thenD (l2:=l2) (N:=N) F (l1:=l) (bs:=bs.tail) (rs:=⟨i,s.aL,s.aL,bD (Q.hint f) o.dst fr.env o.op,false⟩::rs) (i:=i+1) (fr:=j)
   (fun r w=>by
    rcases dG.1 w with rfl|w
    exact⟨rfl,rfl⟩;exact hc r w) (fun r w=>by
    grind) (by
    grind)
  refine⟨u,A,.step E (v:=v) (lc:=lc) (s1:=s.top) ?_ (by rw[J];exact Wz hc _ _) rfl H ?_,B⟩;rw[aaA hc];exact S;rw[J,nA F];exact D;obtain⟨u,A,D,B⟩:=WQ.thenD (l2:=l2) (N:=N) F (l1:=l) (bs:=bs.tail) (rs:=rs) (i:=i+1) (fr:=j) hc (fun r w=>Nat.lt_succ_of_lt (hi r w)) (by
   grind)
  exact⟨u,A,.skip E H D,B⟩
end
def jc:Code->List (Code×Code)
 | .seq a b=>jc a++jc b
 | .cond _ a b=>jc a++jc b
 | .block _ b=>jc b
 | .scope b=>jc b
 | .loop b=>jc b
 | .rangeFunc _ _ a b=>jc a++(jc b++[(a,b)])
 |_=>[]
variable{s':St}
section
variable{Q:aF}{f:FuncId}
def tD(i b:Nat):Bool:=b % 2 ^ i==2 ^ i-1
theorem akU{i b:Nat}(h:tD i b=true): ∀j,j<i->b.testBit j=true:=by
 intro j q;have u:b % 2 ^ i=2 ^ i-1:=eq_of_beq h;have w:(b % 2 ^ i).testBit j=true:=by rw[u,Nat.testBit_two_pow_sub_one];exact dQ q
 grind
def Sr:Nat->List Nat->Nat×Bool
 |_,[]=>(0,true)
 |i,b::l=>match Sr (i+1) l with
  |(k,true)=>bif tD i b then(k+1,true) else(k,false)
  |(k,false)=>(k,false)
def fg(bs:List Nat):Nat×List Nat:=(bs.length-(Sr 0 bs).1,bs.drop (bs.length-(Sr 0 bs).1))
def WT(Q:aF)(f:FuncId):Nat->List Nat->List ay->Fr->St->(Fr->St->Prop)->Prop
 |_,_,[],fr,s,N=>N fr s
 |_,[],_::_,_,_,_=>False
 |i,b::bs,o::l,fr,s,N=>tD i b=true/\((eY fr.env o.g=true/\ ∃v lc s1 j,cy Q f o [] fr s.top=some (v,lc,s1)/\s1.ci=s.ci/\cR fr o.dst v lc=some j/\WT Q f (i+1) bs l j (s.GE s1) N)\/
  (eY fr.env o.g=false/\ ∃j,cR fr o.dst fL fr.loc=some j/\WT Q f (i+1) bs l j s N))
theorem WT.run: ∀ {l:List ay} {i:Nat} {bs:List Nat} {rs:List eZ} {fr:Fr} {s:St} {N:Fr->St->Prop},(∀r∈rs,r.i<i)->WT Q f i bs l fr s N-> ∃j s',kE Q f bs rs i l fr s j s'/\N j s'
 | [],i,bs,rs,fr,s,N,_,h=>⟨fr,s,.nil,by cases bs<;>exact h⟩
 |o::l,i,[],rs,fr,s,N,_,h=>h.elim
 |o::l,i,b::bs,rs,fr,s,N,hi,h=>by
  obtain⟨B,h⟩:=h;have B:=akU B;rcases h with⟨A,v,lc,s1,F,H,G,E,D⟩|⟨A,F,E,D⟩
  obtain⟨j,s',w,u⟩:=WT.run (rs:=⟨i,s.aL,s1.aL,bD (Q.hint f) o.dst fr.env o.op,bh s1.gE s.aL||isStore o.op⟩::rs) (fun r q=>by
   grind) D
  refine⟨j,s',.step A (v:=v) (lc:=lc) (s1:=s1) ?_ (aku fun r q=>B _ (hi r q)) G E w,u⟩;show cy Q f o (iO b rs []) fr s.top=_
  grind [aaz]
  obtain⟨j,s',w,u⟩:=WT.run (rs:=rs) (fun r q=>Nat.lt_succ_of_lt (hi r q)) D;exact⟨j,s',.skip A E w,u⟩
def GF(Q:aF)(f:FuncId)(i:Nat)(bs:List Nat)(d:Tmp)(e:aw)(sz:Nat)(s:St)(l:List ay)(N:Fr->St->Prop)(x:Option (aa×Loc×St)):Prop:= ∃v lc s1,x=some (v,lc,s1)/\s1.ci=s.ci/\d<sz/\WT Q f (i+1) bs l ⟨e.set d (some v),sz,lc⟩ (s.GE s1) N
def adO(Q:aF)(f:FuncId)(i:Nat)(bs:List Nat)(e:aw)(sz:Nat)(s:St)(l:List ay)(N:Fr->St->Prop)(x:Option (aa×Loc×St)):Prop:= ∃v lc s1,x=some (v,lc,s1)/\s1.ci=s.ci/\WT Q f (i+1) bs l ⟨e,sz,lc⟩ (s.GE s1) N
section
variable{i b:Nat}{bs:List Nat}{d:Tmp}{op:Op}{l:List ay}{e:aw}{sz:Nat}{lc:Loc}{s s1:St}{N:Fr->St->Prop}{v:aa}{t:Tmp}{c:Bool}
theorem adQ:GF Q f i bs d e sz s l N (some (v,lc,s1))=(s1.ci=s.ci/\d<sz/\WT Q f (i+1) bs l ⟨e.set d (some v),sz,lc⟩ (s.GE s1) N):=by
 apply propext;constructor;rintro⟨A,w,s',h,u,q,j⟩
 grind
 rintro⟨u,q,j⟩;exact⟨v,lc,s1,rfl,u,q,j⟩
theorem adP:adO Q f i bs e sz s l N (some (v,lc,s1))=(s1.ci=s.ci/\WT Q f (i+1) bs l ⟨e,sz,lc⟩ (s.GE s1) N):=by
 apply propext;constructor;rintro⟨w,u,s',h,q,j⟩
 grind
 rintro⟨q,j⟩;exact⟨v,lc,s1,rfl,q,j⟩
def LL:WT Q f i bs [] fr s N=N fr s:=by cases bs<;>rfl
def Ul:WT Q f i (b::bs) (⟨some d,op,.aw⟩::l) ⟨e,sz,lc⟩ s N=(tD i b=true/\GF Q f i bs d e sz s l N (cy Q f ⟨some d,op,.aw⟩ [] ⟨e,sz,lc⟩ s.top)):=by
 apply propext;constructor;rintro⟨u,⟨_,v,j,s1,F,B,A,E,w⟩|⟨D,_⟩⟩;obtain⟨q,rfl⟩:=fS.1 E;exact⟨u,v,j,s1,B,A,q,w⟩;cases D;rintro⟨u,v,j,s1,B,A,q,w⟩;exact⟨u,.inl ⟨rfl,v,j,s1,_,B,A,fS.2 ⟨q,rfl⟩,w⟩⟩
def Um:WT Q f i (b::bs) (⟨none,op,.aw⟩::l) ⟨e,sz,lc⟩ s N=(tD i b=true/\adO Q f i bs e sz s l N (cy Q f ⟨none,op,.aw⟩ [] ⟨e,sz,lc⟩ s.top)):=by
 apply propext;constructor;rintro⟨q,⟨_,v,j,s1,D,B,A,w,u⟩|⟨E,_⟩⟩;have w:D=⟨e,sz,j⟩:=(sI w).symm;subst w;exact⟨q,v,j,s1,B,A,u⟩;cases E;rintro⟨q,v,j,s1,B,A,u⟩;exact⟨q,.inl ⟨rfl,v,j,s1,_,B,A,rfl,u⟩⟩
end
def aef(s:St):s.top.ci=s.ci:=rfl
def ayA(s:St):s.top.aL=s.aL:=rfl
def SJ(Q:aF)(f:FuncId)(i:Nat)(bs:List Nat)(o:ay)(d:Tmp)(e:aw)(sz:Nat)(lc:Loc)(s:St)(l:List ay)(N:Fr->St->Prop):Bool->Prop
 |true=>GF Q f i bs d e sz s l N (cy Q f o [] ⟨e,sz,lc⟩ s.top)
 |false=>d<sz/\WT Q f (i+1) bs l ⟨e.set d (some fL),sz,lc⟩ s N
section
variable{i b:Nat}{bs:List Nat}{d:Tmp}{op:Op}{o:ay}{l:List ay}{e:aw}{sz:Nat}{lc:Loc}{s s1:St}{N:Fr->St->Prop}{v:aa}{t:Tmp}{c:Bool}
def aeJ:SJ Q f i bs o d e sz lc s l N true=GF Q f i bs d e sz s l N (cy Q f o [] ⟨e,sz,lc⟩ s.top):=rfl
def aeI:SJ Q f i bs o d e sz lc s l N false=(d<sz/\WT Q f (i+1) bs l ⟨e.set d (some fL),sz,lc⟩ s N):=rfl
theorem Un:WT Q f i (b::bs) (⟨some d,op,.when t c⟩::l) ⟨e,sz,lc⟩ s N=(tD i b=true/\SJ Q f i bs ⟨some d,op,.when t c⟩ d e sz lc s l N (ku (ac e t) c)):=by
 apply propext;constructor;rintro⟨w,⟨j,v,q,s1,D,F,E,B,A⟩|⟨j,D,B,A⟩⟩;have j:eY e (.when t c)=true:=j;rw[qg] at j;obtain⟨u,rfl⟩:=fS.1 B;rw[j];exact⟨w,v,q,s1,F,E,u,A⟩;have j:eY e (.when t c)=false:=j;rw[qg] at j;obtain⟨u,rfl⟩:=fS.1 B;rw[j];exact⟨w,u,A⟩;rintro⟨w,h⟩;refine⟨w,?_⟩;cases j:ku (ac e t) c with
 |true=>
  rw[j] at h;obtain⟨v,q,s1,F,E,u,A⟩:=h
  grind [qg,fS]
 |false=>
  rw[j] at h;exact .inr ⟨by grind [qg],_,fS.2 ⟨h.1,rfl⟩,h.2⟩
end
theorem lR(s s1:St)(mk:aH)(n:Nat):(s.GE s1).get mk n=s1.get mk n:=rfl
theorem pL{s s1:St}(j:s.gE<=s.aL)(q:s.aL<=s1.aL):(s.GE s1).gE<=(s.GE s1).aL:=by
 show(bif bu s.gE s1.gE then s.gE else s1.gE)<=s1.aL
 grind [cN]
def WQ.mono{s:St}{N A:Fr->Prop}(h: ∀fr,N fr->A fr): ∀ {l:List ay} {fr:Fr},WQ Q f s l fr N->WQ Q f s l fr A
 | [],fr,j=>h fr j
 |o::l,fr,j=>by
  rcases j with⟨j,v,lc,q,D,B,w,u⟩|⟨j,q,w,u⟩
  exact .inl ⟨j,v,lc,q,D,B,w,WQ.mono h u⟩;exact .inr ⟨j,q,w,WQ.mono h u⟩
def WF(Q:aF)(f:FuncId):SC->Fr->St->(Ex->Fr->St->Prop)->Prop
 | .skip,fr,s,K=>K .normal fr s
 | .ret,fr,s,K=>K .ret fr s
 | .exit id,fr,s,K=>K (.exit id) fr s
 | .seq a b,fr,s,K=>WF Q f a fr s (rB K fun fr s=>WF Q f b fr s K)
 | .cond o a b,fr,s,K=>(ev fr.env o=some (.bool true)/\WF Q f a fr s K)\/(ev fr.env o=some (.bool false)/\WF Q f b fr s K)
 | .block id b,fr,s,K=>WF Q f b fr s fun x=>K (x.block id)
 | .scope b,fr,s,K=>WF Q f b fr s K
 | .region ops,fr,s,K=>WP Q f ops fr s fun fr s=>K .normal fr s
 | .draw ops bs,fr,s,K=>s.gE<=s.aL/\WQ Q f s.top (ops.take (fg bs).1) fr fun j=>WT Q f (fg bs).1 (fg bs).2 (ops.drop (fg bs).1) j s fun fr s=>K .normal fr s
 | .loop b,fr,s,K=>W Q f (.loop b) fr s K
 | .rfun g ps a b,fr,s,K=>W Q f (.rfun g ps a b) fr s K
 | .bad,fr,s,K=>W Q f .bad fr s K
def WF.sound: ∀ {c:SC} {fr:Fr} {s:St} {K:Ex->Fr->St->Prop},WF Q f c fr s K->W Q f c fr s K
 | .skip,_,_,_,h=>kO h
 | .ret,_,_,_,h=>W.ret h
 | .exit _,_,_,_,h=>W.exit h
 | .seq a b,fr,s,K,h=>cC ((WF.sound (c:=a) h).mono fun x fr s D=>by
  cases x with
  |normal=>exact WF.sound (c:=b) D
  |exit i=>exact D
  |ret=>exact D)
 | .cond o a b,fr,s,K,h=>by
   rcases h with⟨A,w⟩|⟨A,w⟩
   exact ib (t:=true) A (WF.sound (c:=a) w);exact ib (t:=false) A (WF.sound (c:=b) w)
 | .block id b,fr,s,K,h=>W.block (WF.sound (c:=b) h)
 | .scope b,fr,s,K,h=>W.scope (WF.sound (c:=b) h)
 | .region ops,fr,s,K,h=>by
   obtain⟨u,s',A,w⟩:=h;exact W.region (WL.run A w)
 | .draw ops bs,fr,s,K,h=>by
   have J:(ops.take (fg bs).1).length<=(fg bs).1:=List.length_take_le _ _;obtain⟨A,w⟩:=h;have B: ∀q,WT Q f (fg bs).1 (fg bs).2 (ops.drop (fg bs).1) q s (fun fr s=>K .normal fr s)-> ∀j:List eZ,calm j->(∀r∈j,r.i<0+(ops.take (fg bs).1).length)->
    ∃u s',kE Q f (bs.drop (ops.take (fg bs).1).length) j (0+(ops.take (fg bs).1).length) (ops.drop (fg bs).1) q s u s'/\K .normal u s':=fun q F j _ M=>by
    by_cases hl:(fg bs).1<=ops.length
    simp_all [fg,WT.run]
    have I:ops.drop (fg bs).1=[]:=List.drop_eq_nil_of_le (by omega);rw[I] at F ⊢;rw[LL] at F;exact⟨q,s,.nil,F⟩
   obtain⟨u,s',G,H⟩:=WQ.thenD (l1:=ops.take (fg bs).1) (l2:=ops.drop (fg bs).1) (N:=fun fr s=>K .normal fr s) (bs:=bs) (rs:=[]) (i:=0) A (fun _ E=>by cases E) (fun _ E=>by cases E) (WQ.mono B w);rw[List.take_append_drop] at G;exact W.drawR G H
 | .loop _,_,_,_,h=>h
 | .rfun _ _ _ _,_,_,_,h=>h
 | .bad,_,_,_,h=>h
def EB(Q:aF)(f:FuncId)(a b:SC)(e:aw)(sz:Nat)(lc:Loc)(s:St)(K:Ex->Fr->St->Prop)(v:Option aa):Prop:=(v=some (.bool true)/\WF Q f a ⟨e,sz,lc⟩ s K)\/(v=some (.bool false)/\WF Q f b ⟨e,sz,lc⟩ s K)
variable{e:aw}{sz:Nat}{lc:Loc}{s:St}{K:Ex->Fr->St->Prop}
def Tq:WF Q f .skip ⟨e,sz,lc⟩ s K=K .normal ⟨e,sz,lc⟩ s:=rfl
def Tk:WF Q f .ret ⟨e,sz,lc⟩ s K=K .ret ⟨e,sz,lc⟩ s:=rfl
def Td{id:Nat}:WF Q f (.exit id) ⟨e,sz,lc⟩ s K=K (.exit id) ⟨e,sz,lc⟩ s:=rfl
def Tp{b:SC}:WF Q f (.seq a b) ⟨e,sz,lc⟩ s K=WF Q f a ⟨e,sz,lc⟩ s (rB K fun fr s=>WF Q f b fr s K):=rfl
def Tb{o:Operand}{b:SC}:WF Q f (.cond o a b) ⟨e,sz,lc⟩ s K=EB Q f a b e sz lc s K (ev e o):=rfl
def Ta{id:Nat}{b:SC}:WF Q f (.block id b) ⟨e,sz,lc⟩ s K=WF Q f b ⟨e,sz,lc⟩ s fun x=>K (x.block id):=rfl
def Tn{b:SC}:WF Q f (.scope b) ⟨e,sz,lc⟩ s K=WF Q f b ⟨e,sz,lc⟩ s K:=rfl
def Tg:WF Q f (.region ops) ⟨e,sz,lc⟩ s K=WP Q f ops ⟨e,sz,lc⟩ s fun fr s=>K .normal fr s:=rfl
def Tc{bs:List Nat}:WF Q f (.draw ops bs) ⟨e,sz,lc⟩ s K=(s.gE<=s.aL/\WQ Q f s.top (ops.take (fg bs).1) ⟨e,sz,lc⟩ fun j=>WT Q f (fg bs).1 (fg bs).2 (ops.drop (fg bs).1) j s fun fr s=>K .normal fr s):=rfl
def Tf{b:SC}:WF Q f (.loop b) ⟨e,sz,lc⟩ s K=W Q f (.loop b) ⟨e,sz,lc⟩ s K:=rfl
def Wa{b:SC}:EB Q f a b e sz lc s K (some (.bool true))=WF Q f a ⟨e,sz,lc⟩ s K:=by simp[EB]
def V9{b:SC}:EB Q f a b e sz lc s K (some (.bool false))=WF Q f b ⟨e,sz,lc⟩ s K:=by simp[EB]
def aq.of3{n:Nat}{t:Tmp}{v:aa}{s:St}(B:Q.P.funcs[f]? =some fn)(D:fn.body.map dY=some sc)(A:fn.ntmps=n)(w:fn.results.toList=[.tmp t])(j:Q.spec f=none)(u:v.ge=true)(h:WF Q f sc (fP n args) s fun x q s1=>s1=s'/\(x= .normal\/x= .ret)/\ac q.env t=v)(F:Q.specH f=none:=by rfl)(E:Q.specW f=none:=by rfl):aq Q f args s v s':=
 aq.of2 B D A w j (h.sound.mono fun _ _ _ ⟨I,H,G⟩=>⟨I,H,dD G u⟩) F E
def aco:nK []= .tup []:=rfl
def acp{v:aa}:nK [v]=v:=rfl
def acq{a b:aa}:nK [a,b]= .tup [a,b]:=rfl
def acr{a b c:aa}:nK [a,b,c]= .tup [a,b,c]:=rfl
def aq.of4{n:Nat}{rs:List ResultVar}{v:aa}{s:St}(A:Q.P.funcs[f]? =some fn)(B:fn.body.map dY=some sc)(w:fn.ntmps=n)(u:fn.results.toList=rs)(j:Q.spec f=none)(h:WF Q f sc (fP n args) s fun x q s1=>s1=s'/\(x= .normal\/x= .ret)/\(iE Q [] q s1 rs).map nK=some v)(E:Q.specH f=none:=by rfl)(D:Q.specW f=none:=by rfl):aq Q f args s v s':=
 aq.of2 A B w u j (h.sound.mono fun _ _ _ ⟨G,F,H⟩=>⟨G,F,by simp_all⟩) E D
def W.loopF{b:SC}(h:WF Q f b fr s (rB K fun fr s=>W Q f (.loop b) fr s K)):W Q f (.loop b) fr s K:=W.loop1 h.sound
end
variable{K:Ex->Fr->St->Prop}{o:Op}{p:aH->Option (aa×Loc×St)}
section
variable{Q:aF}{f:FuncId}
structure gN where
 i:Nat
 nw:Bool
 lo:Bool
 ft:cW
def l8(b j:Nat):Bool:=b / 2 ^ j % 2==1
theorem aed(b j:Nat):l8 b j=b.testBit j:=by
 grind [l8]
def eh(b:Nat)(ft:cW)(lo:Bool):List gN->Bool
 | []=>true
 |a::R=>(l8 b a.i||(!a.nw&& !((lo||a.lo)&&ft.meets a.ft)))&&eh b ft lo R
def kH:Op->Nat
 | .store .. | .alloc _| .box .. =>1
 | .load .. | .fieldAddr .. | .indexAddr .. | .nilCheck _| .move _| .assign _| .pick .. | .build .. | .field .. | .index .. | .binOp .. | .unOp .. | .convert .. | .makeFunc .. | .extract .. =>3
 | .lookup .. | .slice .. =>0
 | .call {callee:=.value _, .. }=>0
 | .call {callee:=.builtin .len, .. }=>0
 |_=>2
def Ae(rs:List eZ)(R:List gN):Prop:= ∀r∈rs, ∃a∈R,a.i=r.i/\(a.nw=false->r.c0=r.c1)/\(a.lo=false->r.loud=false)/\a.ft=r.foot
def abl{b:Nat}{ft:cW}{lo:Bool}: ∀ {R:List gN},eh b ft lo R=true-> ∀a∈R,l8 b a.i=true\/(a.nw=false/\((lo||a.lo)&&ft.meets a.ft)=false)
 | [],_,a,h=>by cases h
 |x::R,h,a,j=>by
  simp only[eh,bq,uj,oA] at h;rcases dG.1 j with rfl|j
  exact h.1;exact abl h.2 a j
def pf(b:Nat)(ft:cW)(lo:Bool):List gN->Bool
 | []=>true
 |a::R=>(l8 b a.i|| !((lo||a.lo)&&ft.meets a.ft))&&pf b ft lo R
def abk{b:Nat}{ft:cW}{lo:Bool}: ∀ {R:List gN},pf b ft lo R=true-> ∀a∈R,l8 b a.i=true\/((lo||a.lo)&&ft.meets a.ft)=false
 | [],_,a,h=>by cases h
 |x::R,h,a,j=>by
  simp only[pf,bq,uj,oA] at h;rcases dG.1 j with rfl|j
  exact h.1;exact abk h.2 a j
def xg{b:Nat}{ft:cW}{lo:Bool}: ∀ {R:List gN},eh b ft lo R=true->pf b ft lo R=true
 | [],_=>rfl
 |x::R,h=>by
  simp only[eh,pf,bq,uj] at h ⊢;exact⟨h.1.imp id fun h=>h.2,xg h.2⟩
theorem yZ{b:Nat}{ft:cW}{lo:Bool}{R:List gN}(q:Ae rs R)(h:eh b ft lo R=true):iO b rs []=[]:=aaz fun r j=>by
 obtain⟨a,u,A,w,_,_⟩:=q r j;rcases abl h a u with h|h
 all_goals grind [aed]
theorem vj{b:Nat}{ft:cW}{lo lo':Bool}{R:List gN}(q:Ae rs R)(h:pf b ft lo R=true)(A:lo=false->lo'=false):pJ b ft lo' rs=true:=by
 simp only[pJ,fD];intro r j;obtain⟨a,w,B,_,u,D⟩:=q r j;rcases abk h a w with h|h
 all_goals grind [aed]
def WG(Q:aF)(f:FuncId):Nat->List gN->List Nat->List ay->Fr->St->(Fr->St->Prop)->Prop
 |_,_,_,[],fr,s,N=>N fr s
 |_,_,[],_::_,_,_,_=>False
 |i,R,b::bs,o::l,fr,s,N=>
  (eY fr.env o.g=true/\kH o.op=3/\ ∃v lc j,(∀mk,cy Q f o mk fr s.top=some (v,lc,s.top))/\cR fr o.dst v lc=some j/\pf b (bD (Q.hint f) o.dst fr.env o.op) false R=true/\WG Q f (i+1) (⟨i,false,false,bD (Q.hint f) o.dst fr.env o.op⟩::R) bs l j s N)\/
  (eY fr.env o.g=true/\ ∃v lc s1 j,cy Q f o [] fr s.top=some (v,lc,s1)/\cR fr o.dst v lc=some j/\
   ((kH o.op=0/\s1=s.top/\eh b (bD (Q.hint f) o.dst fr.env o.op) false R=true/\WG Q f (i+1) (⟨i,false,false,bD (Q.hint f) o.dst fr.env o.op⟩::R) bs l j s N)\/
    (kH o.op=1/\s1=s.top/\eh b (bD (Q.hint f) o.dst fr.env o.op) true R=true/\WG Q f (i+1) (⟨i,false,true,bD (Q.hint f) o.dst fr.env o.op⟩::R) bs l j s N)\/
    (kH o.op=2/\s1.ci=s.ci/\eh b (bD (Q.hint f) o.dst fr.env o.op) true R=true/\s.aL<=s1.aL/\WG Q f (i+1) (⟨i,true,true,bD (Q.hint f) o.dst fr.env o.op⟩::R) bs l j (s.GE s1) N)))\/
  (eY fr.env o.g=false/\ ∃j,cR fr o.dst fL fr.loc=some j/\WG Q f (i+1) R bs l j s N)
theorem Ae.cons{R:List gN}(h:Ae rs R){r:eZ}{a:gN}(A:a.i=r.i)(w:a.nw=false->r.c0=r.c1)(u:a.lo=false->r.loud=false)(q:a.ft=r.foot):Ae (r::rs) (a::R):=fun x j=>by
 rcases dG.1 j with rfl|j
 exact⟨a,by simp,A,w,u,q⟩;obtain⟨D,B,r⟩:=h x j
 grind
def ahs(h:kH o=3):isStore o=false:=by
 cases o<;>first|rfl|(cases h;done)
def ahr(h:kH o=0):isStore o=false:=by
 cases o<;>first|rfl|(cases h;done)
def WG.run: ∀ {l:List ay} {i:Nat} {R:List gN} {bs:List Nat} {rs:List eZ} {fr:Fr} {s:St} {N:Fr->St->Prop},s.gE<=s.aL->Ae rs R->WG Q f i R bs l fr s N-> ∃j s',kE Q f bs rs i l fr s j s'/\N j s'
 | [],i,R,bs,rs,fr,s,N,_,_,h=>⟨fr,s,.nil,by cases bs<;>exact h⟩
 |o::l,i,R,[],rs,fr,s,N,_,_,h=>h.elim
 |o::l,i,R,b::bs,rs,fr,s,N,hm,hr,h=>by
  have J:bh s.aL s.aL=false:=by rw[ol];simp
  rcases h with⟨A,c,v,lc,G,F,D,u,B⟩|⟨A,v,lc,s1,G,F,D,I⟩|⟨A,G,D,I⟩
  have E:(bh s.top.gE s.aL||isStore o.op)=false:=by rw[ahs c,jG];exact J
  obtain⟨j,s',q,w⟩:=WG.run (rs:=⟨i,s.aL,s.top.aL,bD (Q.hint f) o.dst fr.env o.op,bh s.top.gE s.aL||isStore o.op⟩::rs) hm (hr.cons rfl (fun _=>rfl) (fun _=>E) rfl) B;rw[<-nA hm] at q;exact⟨j,s',.step A (v:=v) (lc:=lc) (s1:=s.top) (F _) (vj hr u fun _=>E) rfl D q,w⟩;rcases I with⟨c,rfl,u,B⟩|⟨c,rfl,u,B⟩|⟨c,O,u,M,B⟩
  have E:(bh s.top.gE s.aL||isStore o.op)=false:=by rw[ahr c,jG];exact J
  obtain⟨j,s',q,w⟩:=WG.run (rs:=⟨i,s.aL,s.top.aL,bD (Q.hint f) o.dst fr.env o.op,bh s.top.gE s.aL||isStore o.op⟩::rs) hm (hr.cons rfl (fun _=>rfl) (fun _=>E) rfl) B;rw[<-nA hm] at q;refine⟨j,s',.step A (v:=v) (lc:=lc) (s1:=s.top) ?_ ?_ rfl D q,w⟩;show cy Q f o (iO b rs []) fr s.top=_;rw[yZ hr u];exact F;exact vj hr (xg u) fun _=>E;obtain⟨j,s',q,w⟩:=WG.run (rs:=⟨i,s.aL,s.top.aL,bD (Q.hint f) o.dst fr.env o.op,bh s.top.gE s.aL||isStore o.op⟩::rs) hm (hr.cons rfl (fun _=>rfl) (fun h=>by cases h) rfl) B;rw[<-nA hm] at q;refine⟨j,s',.step A (v:=v) (lc:=lc) (s1:=s.top) ?_ ?_ rfl D q,w⟩;show cy Q f o (iO b rs []) fr s.top=_;rw[yZ hr u];exact F;exact vj hr (xg u) fun h=>by cases h
  obtain⟨j,s',q,w⟩:=WG.run (rs:=⟨i,s.aL,s1.aL,bD (Q.hint f) o.dst fr.env o.op,bh s1.gE s.aL||isStore o.op⟩::rs) (pL hm M) (hr.cons rfl (fun h=>by cases h) (fun h=>by cases h) rfl) B;refine⟨j,s',.step A (v:=v) (lc:=lc) (s1:=s1) ?_ ?_ O D q,w⟩;show cy Q f o (iO b rs []) fr s.top=_;rw[yZ hr u];exact F;exact vj hr (xg u) fun h=>by cases h
  obtain⟨j,s',q,w⟩:=WG.run (rs:=rs) hm (fun r H=>hr r H) I;exact⟨j,s',.skip A D q,w⟩
def W.drawG{bs:List Nat}{s:St}(j:s.gE<=s.aL)(h:WG Q f 0 [] bs ops fr s fun fr s=>K .normal fr s):W Q f (.draw ops bs) fr s K:=
 let⟨_,_,h1,h2⟩:=WG.run (rs:=[]) j (fun _ h=>by cases h) h
 W.drawR h1 h2
def R9(Q:aF)(f:FuncId)(c:Nat)(ft:cW)(i:Nat)(R:List gN)(b:Nat)(bs:List Nat)(d:Option Tmp)(e:aw)(sz:Nat)(s:St)(l:List ay)(N:Fr->St->Prop)(p:aH->Option (aa×Loc×St)):Prop:=
 (c=3/\ ∃v lc j,(∀mk,p mk=some (v,lc,s.top))/\cR ⟨e,sz,lc⟩ d v lc=some j/\pf b ft false R=true/\WG Q f (i+1) (⟨i,false,false,ft⟩::R) bs l j s N)\/
 (∃v lc s1 j,p []=some (v,lc,s1)/\cR ⟨e,sz,lc⟩ d v lc=some j/\
  ((c=0/\s1=s.top/\eh b ft false R=true/\WG Q f (i+1) (⟨i,false,false,ft⟩::R) bs l j s N)\/
   (c=1/\s1=s.top/\eh b ft true R=true/\WG Q f (i+1) (⟨i,false,true,ft⟩::R) bs l j s N)\/
   (c=2/\s1.ci=s.ci/\eh b ft true R=true/\s.aL<=s1.aL/\WG Q f (i+1) (⟨i,true,true,ft⟩::R) bs l j (s.GE s1) N)))
def Sa(Q:aF)(f:FuncId)(c:Nat)(ft:cW)(i:Nat)(R:List gN)(b:Nat)(bs:List Nat)(d:Option Tmp)(e:aw)(sz:Nat)(s:St)(l:List ay)(N:Fr->St->Prop)(x:Option (aa×Loc×St)):Prop:= ∃v lc s1 j,x=some (v,lc,s1)/\cR ⟨e,sz,lc⟩ d v lc=some j/\
 ((c=0/\s1=s.top/\eh b ft false R=true/\WG Q f (i+1) (⟨i,false,false,ft⟩::R) bs l j s N)\/
  (c=1/\s1=s.top/\eh b ft true R=true/\WG Q f (i+1) (⟨i,false,true,ft⟩::R) bs l j s N)\/
  (c=2/\s1.ci=s.ci/\eh b ft true R=true/\s.aL<=s1.aL/\WG Q f (i+1) (⟨i,true,true,ft⟩::R) bs l j (s.GE s1) N))
section
variable{i b c:Nat}{R:List gN}{ft:cW}{bs:List Nat}{d:Tmp}{op:Op}{l:List ay}{e:aw}{sz:Nat}{lc:Loc}{s s1:St}{N:Fr->St->Prop}{v:aa}{t:Tmp}{x:Option (aa×Loc×St)}
def afM:WG Q f i R bs [] fr s N=N fr s:=by cases bs<;>rfl
def Kf{fr:Fr}{d:Option Tmp}{v:aa}{lc l2:Loc}:cR ⟨e,sz,l2⟩ d v lc=cR ⟨e,sz,lc⟩ d v lc:=by cases d<;>rfl
def afL{d:Option Tmp}:WG Q f i R (b::bs) (⟨d,op,.aw⟩::l) ⟨e,sz,lc⟩ s N=R9 Q f (kH op) (bD (Q.hint f) d e op) i R b bs d e sz s l N (fun mk=>cy Q f ⟨d,op,.aw⟩ mk ⟨e,sz,lc⟩ s.top):=by
 apply propext;constructor;rintro(⟨_,c,v,j,q,A,u,w⟩|⟨_,v,j,s1,q,A,u,w⟩|⟨B,_⟩);have u:cR ⟨e,sz,lc⟩ d v j=some q:=u;rw[Kf (fr:=⟨e,sz,lc⟩)] at u;exact .inl ⟨c,v,j,q,A,u,w⟩;have u:cR ⟨e,sz,lc⟩ d v j=some q:=u;rw[Kf (fr:=⟨e,sz,lc⟩)] at u;exact .inr ⟨v,j,s1,q,A,u,w⟩;cases B;rintro(⟨c,v,j,q,A,u,w⟩|⟨v,j,s1,q,A,u,w⟩);rw[<-Kf (fr:=⟨e,sz,lc⟩) (l2:=lc)] at u;exact .inl ⟨rfl,c,v,j,q,A,u,w⟩;rw[<-Kf (fr:=⟨e,sz,lc⟩) (l2:=lc)] at u;exact .inr (.inl ⟨rfl,v,j,s1,q,A,u,w⟩)
theorem axQ:R9 Q f 3 ft i R b bs (some d) e sz s l N (fun _=>some (v,lc,s.top))=(d<sz/\pf b ft false R=true/\WG Q f (i+1) (⟨i,false,false,ft⟩::R) bs l ⟨e.set d (some v),sz,lc⟩ s N):=by
 apply propext;constructor
 ·rintro(⟨_,B,j,u,h,q,A,w⟩|⟨B,j,s',u,h,q,⟨h,_⟩|⟨h,_⟩|⟨h,_⟩⟩)
  have h:=h []
  grind [fS]
  all_goals grind
 rintro⟨q,A,w⟩;exact .inl ⟨rfl,v,lc,_,fun _=>rfl,fS.2 ⟨q,rfl⟩,A,w⟩
def axR{d:Option Tmp}:R9 Q f 1 ft i R b bs d e sz s l N p=Sa Q f 1 ft i R b bs d e sz s l N (p []):=by
 apply propext;constructor;rintro(⟨h,_⟩|h);cases h;exact h;exact fun h=>.inr h
theorem axS:Sa Q f 1 ft i R b bs (some d) e sz s l N (some (v,lc,s.top))=(d<sz/\eh b ft true R=true/\WG Q f (i+1) (⟨i,false,true,ft⟩::R) bs l ⟨e.set d (some v),sz,lc⟩ s N):=by
 apply propext;constructor
 ·rintro⟨B,u,s',A,h,q,⟨h,_⟩|⟨_,_,j,D⟩|⟨h,_⟩⟩
  all_goals grind [fS]
 rintro⟨q,w,j⟩;exact⟨v,lc,_,_,rfl,fS.2 ⟨q,rfl⟩,.inr (.inl ⟨rfl,rfl,w,j⟩)⟩
def axT:Sa Q f 1 ft i R b bs none e sz s l N (some (v,lc,s.top))=(eh b ft true R=true/\WG Q f (i+1) (⟨i,false,true,ft⟩::R) bs l ⟨e,sz,lc⟩ s N):=by
 apply propext;constructor;rintro⟨D,w,s',u,h,q,⟨h,_⟩|⟨_,_,j,A⟩|⟨h,_⟩⟩;cases h;simp only[aM,bC] at h;obtain⟨rfl,rfl,rfl⟩:=h;have q:u=⟨e,sz,lc⟩:=(sI q).symm;subst q;exact⟨j,A⟩;cases h;rintro⟨B,j⟩;exact⟨v,lc,_,⟨e,sz,lc⟩,rfl,rfl,.inr (.inl ⟨rfl,rfl,B,j⟩)⟩
end
section
variable{b:Nat}{ft:cW}{lo:Bool}{R:List gN}{i:Nat}{nw l2:Bool}{ft2:cW}
def at8:eh b ft lo []=true:=rfl
def at6:pf b ft lo []=true:=rfl
def at5:pf b ft lo (⟨i,nw,l2,ft2⟩::R)=((l8 b i|| !((lo||l2)&&ft.meets ft2))&&pf b ft lo R):=rfl
def at7:eh b ft lo (⟨i,nw,l2,ft2⟩::R)=((l8 b i||(!nw&& !((lo||l2)&&ft.meets ft2)))&&eh b ft lo R):=rfl
def ale:xJ ft .none=false:=by cases ft<;>rfl
def atD:xJ .none ft=false:=by cases ft<;>rfl
def agl(t:Nat):xJ .all (.loc t)=false:=rfl
def asi(t:Nat):xJ (.loc t) .all=false:=rfl
def asj(t u:Nat):xJ (.loc t) (.loc u)=aK t u:=rfl
end
def alK(h:Tmp->Nat)(d:Option Tmp)(e:aw)(t:TypeId)(a:Operand):bD h d e (.load t a)=wF e a:=rfl
def alU(h:Tmp->Nat)(d:Option Tmp)(e:aw)(t:TypeId)(a x:Operand):bD h d e (.store t a x)=wF e a:=rfl
def alG(h:Tmp->Nat)(d:Option Tmp)(e:aw)(t:TypeId)(a:Operand)(i:Nat):bD h d e (.fieldAddr t a i)=qL e a:=rfl
def alI(h:Tmp->Nat)(d:Option Tmp)(e:aw)(t:TypeId)(a i:Operand):bD h d e (.indexAddr t a i)=qL e a:=rfl
def alQ(h:Tmp->Nat)(d:Option Tmp)(e:aw)(a:Operand):bD h d e (.move a)= .none:=rfl
def aly(h:Tmp->Nat)(d:Option Tmp)(e:aw)(a:Operand):bD h d e (.assign a)= .none:=rfl
def alB(h:Tmp->Nat)(d:Option Tmp)(e:aw)(t:TypeId)(ps:Array (Nat×Operand)):bD h d e (.build t ps)= .none:=rfl
def alC(h:Tmp->Nat)(d:Option Tmp)(e:aw)(t:TypeId)(n:Nat)(ps:Array (Nat×Operand)):bD h d e (.buildSlice t n ps)= .none:=rfl
def alz(h:Tmp->Nat)(d:Option Tmp)(e:aw)(o:BinOp)(t u:TypeId)(x y:Operand):bD h d e (.binOp o t x y u)= .none:=rfl
def alV(h:Tmp->Nat)(d:Option Tmp)(e:aw)(o:UnOp)(t:TypeId)(x:Operand):bD h d e (.unOp o t x)= .none:=rfl
def alF(h:Tmp->Nat)(d:Option Tmp)(e:aw)(a:Operand)(i:Nat):bD h d e (.extract a i)= .none:=rfl
def alw(h:Tmp->Nat)(d:Tmp)(e:aw)(t:TypeId):bD h (some d) e (.alloc t)=bif aK (h d) 1 then .loc d else .none:=rfl
def alA(h:Tmp->Nat)(d:Tmp)(e:aw)(t:TypeId)(x:Operand):bD h (some d) e (.box t x)=bif aK (h d) 1 then .loc d else .none:=rfl
def alD(h:Tmp->Nat)(d:Option Tmp)(e:aw)(x:Operand)(as:Array Operand)(ts:Array TypeId):bD h d e (.call ⟨.value x,as,ts⟩)= .all:=rfl
def alx(h:Tmp->Nat)(d:Option Tmp)(e:aw)(as:Array Operand)(ts:Array TypeId):bD h d e (.call ⟨.builtin .append,as,ts⟩)= .all:=rfl
def H1:aa->cW
 | .Gt t _ _=>.loc t
 | .ptr n _=>.obj n
 | .ro _=>.none
 |_=>.all
def Cw:aa->cW
 | .Gt t _ _=>.loc t
 |_=>.none
def ali(e:aw)(t:Tmp):wF e (.tmp t)=H1 (ac e t):=by
 show(match ev e (.tmp t) with|some (.Gt t _ _)=>cW.loc t|some (.ptr n _)=>.obj n|some (.ro _)=>.none|_=>.all)=_;rw[dA];cases ac e t<;>rfl
def alr(e:aw)(t:Tmp):qL e (.tmp t)=Cw (ac e t):=by
 show(match ev e (.tmp t) with|some (.Gt t _ _)=>cW.loc t|_=>.none)=_;rw[dA];cases ac e t<;>rfl
def alf(t g o:Nat):H1 (.Gt t g o)= .loc t:=rfl
def alh(x:List aa):H1 (.ro x)= .none:=rfl
def alo(t g o:Nat):Cw (.Gt t g o)= .loc t:=rfl
def alq(x:List aa):Cw (.ro x)= .none:=rfl
def ahE(t:TypeId)(a:Operand):kH (.load t a)=3:=rfl
def ahG(t:TypeId)(a x:Operand):kH (.store t a x)=1:=rfl
def aht(t:TypeId):kH (.alloc t)=1:=rfl
def ahx(t:TypeId)(x:Operand):kH (.box t x)=1:=rfl
def ahC(t:TypeId)(a:Operand)(i:Nat):kH (.fieldAddr t a i)=3:=rfl
def ahD(t:TypeId)(a i:Operand):kH (.indexAddr t a i)=3:=rfl
def ahF(a:Operand):kH (.move a)=3:=rfl
def ahv(a:Operand):kH (.assign a)=3:=rfl
def ahy(t:TypeId)(ps:Array (Nat×Operand)):kH (.build t ps)=3:=rfl
def ahz(t:TypeId)(n:Nat)(ps:Array (Nat×Operand)):kH (.buildSlice t n ps)=2:=rfl
def ahw(o:BinOp)(t u:TypeId)(x y:Operand):kH (.binOp o t x y u)=3:=rfl
def ahH(o:UnOp)(t:TypeId)(x:Operand):kH (.unOp o t x)=3:=rfl
def ahB(a:Operand)(i:Nat):kH (.extract a i)=3:=rfl
def ahA(x:Operand)(as:Array Operand)(ts:Array TypeId):kH (.call ⟨.value x,as,ts⟩)=0:=rfl
def ahu(as:Array Operand)(ts:Array TypeId):kH (.call ⟨.builtin .append,as,ts⟩)=2:=rfl
end
variable{xs:Array Operand}{ts:Array TypeId}{ps:List Tmp}{h o:Operand}
section
variable{Q:aF}{f:FuncId}
theorem aq.sp{g:FuncId}{args:List aa}{s:St}{sp:List aa->Option aa}{v:aa}(h:Q.spec g=some sp)(j:sp args=some v):aq Q g args s v s:=by
 refine⟨1,?_⟩;show jw Q (ce Q 0) g args [] s=_
 grind [jw]
theorem aq.sp_inv{g:FuncId}{args:List aa}{s s1:St}{sp:List aa->Option aa}{v:aa}(h:Q.spec g=some sp)(q:aq Q g args s v s1):sp args=some v/\s1=s:=by
 obtain⟨n,j⟩:=q;cases n with
 |zero=>cases j
 |succ n=>
  have j:jw Q (ce Q n) g args [] s=some (v,s1):=j
  grind [jw,ak]
def DM(d:Tmp)(e:aw)(sz:Nat)(C:Fr->St->Prop)(x:Option (aa×Loc×St)):Prop:= ∃v lc s,x=some (v,lc,s)/\d<sz/\C ⟨e.set d (some v),sz,lc⟩ s
def Sc(e:aw)(sz:Nat)(C:Fr->St->Prop)(x:Option (aa×Loc×St)):Prop:= ∃v lc s,x=some (v,lc,s)/\C ⟨e,sz,lc⟩ s
def co(Q:aF)(g:FuncId)(args:List aa)(d:Tmp)(e:aw)(sz:Nat)(lc:Loc)(s:St)(C:Fr->St->Prop):Prop:= ∃v s1,aq Q g args s v s1/\d<sz/\C ⟨e.set d (some v),sz,lc⟩ s1
def zM(Q:aF)(n:Nat)(args:List aa)(d:Tmp)(e:aw)(sz:Nat)(lc:Loc)(s:St)(C:Fr->St->Prop):Prop:= ∃v s1,iI Q n args s v s1/\d<sz/\C ⟨e.set d (some v),sz,lc⟩ s1
def x9(Q:aF)(d:Tmp)(e:aw)(sz:Nat)(lc:Loc)(s:St)(C:Fr->St->Prop)(g:FuncId)(args:List aa):Option (List aa->Option aa)->Prop
 |some sp=>DM d e sz C ((sp args).bind fun v=>some (v,lc,s))
 |none=>co Q g args d e sz lc s C
def B3(Q:aF)(d:Tmp)(e:aw)(sz:Nat)(lc:Loc)(s:St)(C:Fr->St->Prop):Option aa->Option (List aa)->Prop
 |some (.func (.func g) a b),some args=>x9 Q d e sz lc s C g (a++(args++b)) (Q.spec g)
 |some (.yld n),some args=>zM Q n args d e sz lc s C
 |_,_=>False
def mF:Op->Bool
 | .call {callee:=.value _, .. }=>true
 |_=>false
def Ce(Q:aF)(f:FuncId)(op:Op)(d:Tmp)(e:aw)(sz:Nat)(lc:Loc)(s:St)(C:Fr->St->Prop):Bool->Prop
 |false=>DM d e sz C (cy Q f ⟨some d,op,.aw⟩ [] ⟨e,sz,lc⟩ s)
 |true=>match op with
  | .call {callee:=.value x,args:=xs, .. }=>B3 Q d e sz lc s C (ev e x) (evcs e xs.toList)
  |_=>False
def NY(Q:aF)(f:FuncId)(op:Op)(e:aw)(sz:Nat)(lc:Loc)(s:St)(C:Fr->St->Prop):Option Tmp->Prop
 |some d=>Ce Q f op d e sz lc s C (mF op)
 |none=>Sc e sz C (cy Q f ⟨none,op,.aw⟩ [] ⟨e,sz,lc⟩ s)
def Qz(e:aw)(sz:Nat)(lc:Loc)(s:St)(C:Fr->St->Prop):Option Tmp->Prop
 |some d=>d<sz/\C ⟨e.set d (some fL),sz,lc⟩ s
 |none=>C ⟨e,sz,lc⟩ s
def ifV(Q:aF)(f:FuncId)(op:Op)(e:aw)(sz:Nat)(lc:Loc)(s:St)(C:Fr->St->Prop)(d:Option Tmp):Bool->Prop
 |true=>NY Q f op e sz lc s C d
 |false=>Qz e sz lc s C d
def opV(Q:aF)(f:FuncId)(op:Op)(d:Option Tmp)(e:aw)(sz:Nat)(lc:Loc)(s:St)(C:Fr->St->Prop):SG->Prop
 | .aw=>NY Q f op e sz lc s C d
 | .when t b=>ifV Q f op e sz lc s C d (ku (ac e t) b)
 | .never=>Qz e sz lc s C d
def WV(Q:aF)(f:FuncId):List ay->Fr->St->(Fr->St->Prop)->Prop
 | [],fr,s,N=>N fr s
 |o::l,fr,s,N=>opV Q f o.op o.dst fr.env fr.size fr.loc s (fun fr s=>WV Q f l fr s N) o.g
def W7{o:ay}{l:List ay}{s:St}{N:Fr->St->Prop}(H:eY fr.env o.g=true)(G: ∀ {fr s},WV Q f l fr s N->WL Q f l fr s N)(h:NY Q f o.op fr.env fr.size fr.loc s (fun fr s=>WV Q f l fr s N) o.dst):WL Q f (o::l) fr s N:=by
 obtain⟨d,op,gd⟩:=o;obtain⟨e,sz,lc⟩:=fr;cases d with
 |none=>
  obtain⟨v,lc',s1,j,B⟩:=h;obtain⟨q,D,F,E⟩:=G B;refine⟨q,D,.step (fr1:=⟨e,sz,lc'⟩) (s1:=s1) ?_ F,E⟩;have j:cy Q f ⟨none,op,gd⟩ [] ⟨e,sz,lc⟩ s=some (v,lc',s1):=j;simp only[sK,H,j,cT,bk];rfl
 |some d=>
  have plain:DM d e sz (fun fr s=>WV Q f l fr s N) (cy Q f ⟨some d,op,.aw⟩ [] ⟨e,sz,lc⟩ s)->WL Q f (⟨some d,op,gd⟩::l) ⟨e,sz,lc⟩ s N:=by
   rintro⟨v,lc',s1,j,B,A⟩;obtain⟨q,D,F,E⟩:=G A;refine⟨q,D,.step (fr1:=⟨e.set d (some v),sz,lc'⟩) (s1:=s1) ?_ F,E⟩;have j:cy Q f ⟨some d,op,gd⟩ [] ⟨e,sz,lc⟩ s=some (v,lc',s1):=j;simp only[sK,H,j,cT,bk,(fS (e:=e) (lc:=lc) (lc':=lc')).2 ⟨B,rfl⟩]
  have h:Ce Q f op d e sz lc s (fun fr s=>WV Q f l fr s N) (mF op):=h;cases hc:mF op with
  |false=>rw[hc] at h;exact plain h
  |true=>
   rw[hc] at h;unfold mF at hc;split at hc;rename_i x xs ts _;have h:B3 Q d e sz lc s (fun fr s=>WV Q f l fr s N) (ev e x) (evcs e xs.toList):=h;unfold B3 at h;split at h;rename_i g a b args j B;have w:callee e ⟨.value x,xs,ts⟩=some (g,a++(args++b)):=by simp only[callee,j,B,bk]
   unfold x9 at h;split at h;rename_i sp M;obtain⟨v,lc',s1,A,J,I⟩:=h;simp only[ak,aM,bC] at A;obtain⟨u,O,rfl,rfl,rfl⟩:=A;exact WL.call H rfl (by simp) w (.sp M O) (fS.2 ⟨J,rfl⟩) (G I);obtain⟨v,s1,A,J,I⟩:=h;exact WL.call H rfl (by simp) w A (fS.2 ⟨J,rfl⟩) (G I);rename_i n args j B;obtain⟨v,s1,A,J,I⟩:=h;obtain⟨q,D,F,E⟩:=G I;exact⟨q,D,.yld H rfl (by simp only[yieldee,j,B,bk]) A (fS.2 ⟨J,rfl⟩) F,E⟩;exact h.elim;cases hc
def aaY{o:ay}{l:List ay}{s:St}{N:Fr->St->Prop}(B:eY fr.env o.g=false)(A: ∀ {fr s},WV Q f l fr s N->WL Q f l fr s N)(h:Qz fr.env fr.size fr.loc s (fun fr s=>WV Q f l fr s N) o.dst):WL Q f (o::l) fr s N:=by
 obtain⟨d,op,gd⟩:=o;obtain⟨e,sz,lc⟩:=fr;cases d with
 |none=>
  obtain⟨j,q,w,u⟩:=A h;refine⟨j,q,.step (fr1:=⟨e,sz,lc⟩) (s1:=s) ?_ w,u⟩;simp only[sK,B,cF];rfl
 |some d=>
  obtain⟨j,q,w,u⟩:=A h.2;refine⟨j,q,.step (fr1:=⟨e.set d (some fL),sz,lc⟩) (s1:=s) ?_ w,u⟩;simp only[sK,B,cF,(fS (e:=e) (lc:=lc) (lc':=lc)).2 ⟨h.1,rfl⟩,bk]
def WV.run: ∀ {l:List ay} {fr:Fr} {s:St} {N:Fr->St->Prop},WV Q f l fr s N->WL Q f l fr s N
 | [],fr,s,N,h=>⟨fr,s,.nil,h⟩
 |o::l,fr,s,N,h=>by
  have h:opV Q f o.op o.dst fr.env fr.size fr.loc s (fun fr s=>WV Q f l fr s N) o.g:=h;cases hg:o.g with
  |aw=>
   rw[hg] at h;exact W7 (by rw[hg];rfl) WV.run h
  |never=>
   rw[hg] at h;exact aaY (by rw[hg];rfl) WV.run h
  | «when» t b=>
    rw[hg] at h;have h:ifV Q f o.op fr.env fr.size fr.loc s (fun fr s=>WV Q f l fr s N) o.dst (ku (ac fr.env t) b):=h;have j:eY fr.env o.g=ku (ac fr.env t) b:=by rw[hg,qg]
    cases hv:ku (ac fr.env t) b with
    |true=>rw[hv] at h;exact W7 (by rw[j,hv]) WV.run h
    |false=>rw[hv] at h;exact aaY (by rw[j,hv]) WV.run h
def WC(Q:aF)(f:FuncId):SC->Fr->St->(Ex->Fr->St->Prop)->Prop
 | .skip,fr,s,K=>K .normal fr s
 | .ret,fr,s,K=>K .ret fr s
 | .exit id,fr,s,K=>K (.exit id) fr s
 | .seq a b,fr,s,K=>WC Q f a fr s (rB K fun fr s=>WC Q f b fr s K)
 | .cond o a b,fr,s,K=>(ev fr.env o=some (.bool true)/\WC Q f a fr s K)\/(ev fr.env o=some (.bool false)/\WC Q f b fr s K)
 | .block id b,fr,s,K=>WC Q f b fr s fun x=>K (x.block id)
 | .scope b,fr,s,K=>WC Q f b fr s K
 | .region ops,fr,s,K=>WV Q f ops fr s fun fr s=>K .normal fr s
 | .draw ops bs,fr,s,K=>WF Q f (.draw ops bs) fr s K
 | .loop b,fr,s,K=>W Q f (.loop b) fr s K
 | .rfun g ps a b,fr,s,K=>W Q f (.rfun g ps a b) fr s K
 | .bad,fr,s,K=>W Q f .bad fr s K
def WC.sound: ∀ {c:SC} {fr:Fr} {s:St} {K:Ex->Fr->St->Prop},WC Q f c fr s K->W Q f c fr s K
 | .skip,_,_,_,h=>kO h
 | .ret,_,_,_,h=>W.ret h
 | .exit _,_,_,_,h=>W.exit h
 | .seq a b,fr,s,K,h=>cC ((WC.sound (c:=a) h).mono fun x fr s j=>by
  cases x with
  |normal=>exact WC.sound (c:=b) j
  |exit i=>exact j
  |ret=>exact j)
 | .cond o a b,fr,s,K,h=>by
   rcases h with⟨u,q⟩|⟨u,q⟩
   exact ib (t:=true) u (WC.sound (c:=a) q);exact ib (t:=false) u (WC.sound (c:=b) q)
 | .block id b,fr,s,K,h=>W.block (WC.sound (c:=b) h)
 | .scope b,fr,s,K,h=>W.scope (WC.sound (c:=b) h)
 | .region ops,fr,s,K,h=>W.region (WV.run h)
 | .draw ops bs,fr,s,K,h=>WF.sound h
 | .loop _,_,_,_,h=>h
 | .rfun _ _ _ _,_,_,_,h=>h
 | .bad,_,_,_,h=>h
def Ez(Q:aF)(f:FuncId)(a b:SC)(e:aw)(sz:Nat)(lc:Loc)(s:St)(K:Ex->Fr->St->Prop)(v:Option aa):Prop:=(v=some (.bool true)/\WC Q f a ⟨e,sz,lc⟩ s K)\/(v=some (.bool false)/\WC Q f b ⟨e,sz,lc⟩ s K)
section
variable{d:Tmp}{op:Op}{l:List ay}{e:aw}{sz:Nat}{lc:Loc}{s s1:St}{N C:Fr->St->Prop}{K:Ex->Fr->St->Prop}{v:aa}{t:Tmp}{c:Bool}{g:FuncId}{x y args:List aa}{sp:List aa->Option aa}{a b:SC}
def co.of(j:aq Q g args s v s1)(q:d<sz)(h:C ⟨e.set d (some v),sz,lc⟩ s1):co Q g args d e sz lc s C:=⟨v,s1,j,q,h⟩
def co.ex{R:aa->St->Prop}(j: ∃v s1,aq Q g args s v s1/\R v s1)(q:d<sz)(h: ∀v s1,R v s1->C ⟨e.set d (some v),sz,lc⟩ s1):co Q g args d e sz lc s C:=let⟨v,s1,h1,h2⟩:=j;⟨v,s1,h1,q,h v s1 h2⟩
def zM.of{n:Nat}(j:iI Q n args s v s1)(q:d<sz)(h:C ⟨e.set d (some v),sz,lc⟩ s1):zM Q n args d e sz lc s C:=⟨v,s1,j,q,h⟩
theorem Se:DM d e sz C (some (v,lc,s))=(d<sz/\C ⟨e.set d (some v),sz,lc⟩ s):=by
 apply propext;constructor;rintro⟨q,j,s',h,u⟩
 grind
 exact fun h=>⟨v,lc,s,rfl,h⟩
theorem Sd:Sc e sz C (some (v,lc,s))=C ⟨e,sz,lc⟩ s:=by
 apply propext;constructor;rintro⟨q,j,s',h,u⟩
 grind
 exact fun h=>⟨v,lc,s,rfl,h⟩
def LO:WV Q f [] fr s N=N fr s:=rfl
def LM:WV Q f (⟨some d,op,.aw⟩::l) ⟨e,sz,lc⟩ s N=Ce Q f op d e sz lc s (fun fr s=>WV Q f l fr s N) (mF op):=rfl
def LN:WV Q f (⟨none,op,.aw⟩::l) ⟨e,sz,lc⟩ s N=Sc e sz (fun fr s=>WV Q f l fr s N) (cy Q f ⟨none,op,.aw⟩ [] ⟨e,sz,lc⟩ s):=rfl
def LP{d:Option Tmp}:WV Q f (⟨d,op,.when t c⟩::l) ⟨e,sz,lc⟩ s N=ifV Q f op e sz lc s (fun fr s=>WV Q f l fr s N) d (ku (ac e t) c):=rfl
def Oc:ifV Q f op e sz lc s C (some d) true=Ce Q f op d e sz lc s C (mF op):=rfl
def Ob:ifV Q f op e sz lc s C (some d) false=(d<sz/\C ⟨e.set d (some fL),sz,lc⟩ s):=rfl
def M6:Ce Q f op d e sz lc s C false=DM d e sz C (cy Q f ⟨some d,op,.aw⟩ [] ⟨e,sz,lc⟩ s):=rfl
def M5{x:Operand}:Ce Q f (.call ⟨.value x,xs,ts⟩) d e sz lc s C true=B3 Q d e sz lc s C (ev e x) (evcs e xs.toList):=rfl
def MB:B3 Q d e sz lc s C (some (.func (.func g) x y)) (some args)=x9 Q d e sz lc s C g (x++(args++y)) (Q.spec g):=rfl
def MC{n:Nat}:B3 Q d e sz lc s C (some (.yld n)) (some args)=zM Q n args d e sz lc s C:=rfl
def MA:x9 Q d e sz lc s C g args (some sp)=DM d e sz C ((sp args).bind fun v=>some (v,lc,s)):=rfl
def Mz:x9 Q d e sz lc s C g args none=co Q g args d e sz lc s C:=rfl
def Lu:WC Q f .skip ⟨e,sz,lc⟩ s K=K .normal ⟨e,sz,lc⟩ s:=rfl
def Lp:WC Q f .ret ⟨e,sz,lc⟩ s K=K .ret ⟨e,sz,lc⟩ s:=rfl
def Ll{id:Nat}:WC Q f (.exit id) ⟨e,sz,lc⟩ s K=K (.exit id) ⟨e,sz,lc⟩ s:=rfl
def Ls:WC Q f (.seq a b) ⟨e,sz,lc⟩ s K=WC Q f a ⟨e,sz,lc⟩ s (rB K fun fr s=>WC Q f b fr s K):=rfl
def Lj:WC Q f (.cond o a b) ⟨e,sz,lc⟩ s K=Ez Q f a b e sz lc s K (ev e o):=rfl
def Li{id:Nat}:WC Q f (.block id b) ⟨e,sz,lc⟩ s K=WC Q f b ⟨e,sz,lc⟩ s fun x=>K (x.block id):=rfl
def Lr:WC Q f (.scope b) ⟨e,sz,lc⟩ s K=WC Q f b ⟨e,sz,lc⟩ s K:=rfl
def Ln:WC Q f (.region ops) ⟨e,sz,lc⟩ s K=WV Q f ops ⟨e,sz,lc⟩ s fun fr s=>K .normal fr s:=rfl
def Lk:WC Q f (.draw ops bs) ⟨e,sz,lc⟩ s K=WF Q f (.draw ops bs) ⟨e,sz,lc⟩ s K:=rfl
def Lm:WC Q f (.loop b) ⟨e,sz,lc⟩ s K=W Q f (.loop b) ⟨e,sz,lc⟩ s K:=rfl
def Lq{p q:Code}:WC Q f (.rfun h ps p q) ⟨e,sz,lc⟩ s K=W Q f (.rfun h ps p q) ⟨e,sz,lc⟩ s K:=rfl
def M3:Ez Q f a b e sz lc s K (some (.bool true))=WC Q f a ⟨e,sz,lc⟩ s K:=by simp[Ez]
def M2:Ez Q f a b e sz lc s K (some (.bool false))=WC Q f b ⟨e,sz,lc⟩ s K:=by simp[Ez]
def W.loopC(h:WC Q f b fr s (rB K fun fr s=>W Q f (.loop b) fr s K)):W Q f (.loop b) fr s K:=W.loop1 h.sound
end
end
variable{as:List aa}{gd:SG}{ty:TypeId}
section
variable{Q:aF}{f:FuncId}
def gH:Op->Nat
 | .fieldAddr .. | .indexAddr .. | .nilCheck _| .move _| .assign _| .pick .. | .build .. | .field .. | .index .. | .binOp .. | .unOp .. | .convert .. | .makeFunc .. | .extract .. =>3
 | .load .. | .lookup .. | .slice .. =>0
 | .call {callee:=.value _, .. }=>0
 | .call {callee:=.builtin .len, .. }=>0
 | .call {callee:=.builtin .min, .. }=>0
 | .call {callee:=.builtin .max, .. }=>0
 |_=>1
def WX(Q:aF)(f:FuncId):Nat->List gN->List Nat->List ay->Fr->St->(Fr->St->Prop)->Prop
 |_,_,_,[],fr,s,N=>N fr s
 |_,_,[],_::_,_,_,_=>False
 |i,R,b::bs,o::l,fr,s,N=>
  (eY fr.env o.g=true/\gH o.op=3/\ ∃v lc j,(∀mk,cy Q f o mk fr s.top=some (v,lc,s.top))/\cR fr o.dst v lc=some j/\pf b (bD (Q.hint f) o.dst fr.env o.op) false R=true/\WX Q f (i+1) (⟨i,false,false,bD (Q.hint f) o.dst fr.env o.op⟩::R) bs l j s N)\/
  (eY fr.env o.g=true/\gH o.op=0/\ ∃v lc j,cy Q f o [] fr s.top=some (v,lc,s.top)/\cR fr o.dst v lc=some j/\eh b (bD (Q.hint f) o.dst fr.env o.op) false R=true/\WX Q f (i+1) (⟨i,false,false,bD (Q.hint f) o.dst fr.env o.op⟩::R) bs l j s N)\/
  (eY fr.env o.g=true/\gH o.op=1/\ ∃v lc s1 j,cy Q f o [] fr s.top=some (v,lc,s1)/\cR fr o.dst v lc=some j/\s1.ci=s.ci/\s.aL<=s1.aL/\eh b (bD (Q.hint f) o.dst fr.env o.op) true R=true/\WX Q f (i+1) (⟨i, !aK s1.aL s.aL,true,bD (Q.hint f) o.dst fr.env o.op⟩::R) bs l j (s.GE s1) N)\/
  (eY fr.env o.g=true/\ ∃c g args v s1 j,o.op= .call c/\(∀b,c.callee≠ .builtin b)/\callee fr.env c=some (g,args)/\Q.spec g=none/\aq Q g args s.top v s1/\cR fr o.dst v fr.loc=some j/\s1.ci=s.ci/\s.aL<=s1.aL/\eh b (bD (Q.hint f) o.dst fr.env o.op) true R=true/\WX Q f (i+1) (⟨i, !aK s1.aL s.aL,true,bD (Q.hint f) o.dst fr.env o.op⟩::R) bs l j (s.GE s1) N)\/
  (eY fr.env o.g=false/\ ∃j,cR fr o.dst fL fr.loc=some j/\WX Q f (i+1) R bs l j s N)\/
  (eY fr.env o.g=true/\ ∃c n args v s1 j,o.op= .call c/\yieldee fr.env c=some (n,args)/\iI Q n args s.top v s1/\cR fr o.dst v fr.loc=some j/\s1.ci=s.ci/\s.aL<=s1.aL/\eh b (bD (Q.hint f) o.dst fr.env o.op) true R=true/\WX Q f (i+1) (⟨i, !aK s1.aL s.aL,true,bD (Q.hint f) o.dst fr.env o.op⟩::R) bs l j (s.GE s1) N)\/
  (eY fr.env o.g=true/\ ∃c g args v j,o.op= .call c/\(∀b,c.callee≠ .builtin b)/\callee fr.env c=some (g,args)/\Q.spec g=none/\aq Q g args s.top v s.top/\cR fr o.dst v fr.loc=some j/\eh b (bD (Q.hint f) o.dst fr.env o.op) false R=true/\WX Q f (i+1) (⟨i,false,false,bD (Q.hint f) o.dst fr.env o.op⟩::R) bs l j s N)
def Vo{o:Op}(h:gH o=3\/gH o=0):isStore o=false:=by
 cases o<;>first|rfl|(rcases h with h|h<;>cases h;done)
def Qv{a b:Nat}(h:(!aK a b)=false):b=a:=by
 simp_all
def WX.run: ∀ {l:List ay} {i:Nat} {R:List gN} {bs:List Nat} {rs:List eZ} {fr:Fr} {s:St} {N:Fr->St->Prop},s.gE<=s.aL->Ae rs R->WX Q f i R bs l fr s N-> ∃j s',kE Q f bs rs i l fr s j s'/\N j s'
 | [],i,R,bs,rs,fr,s,N,_,_,h=>⟨fr,s,.nil,by cases bs<;>exact h⟩
 |o::l,i,R,[],rs,fr,s,N,_,_,h=>h.elim
 |o::l,i,R,b::bs,rs,fr,s,N,hm,hr,h=>by
  have U:bh s.aL s.aL=false:=by rw[ol];simp
  rcases h with⟨D,c,v,lc,F,S,E,A,G⟩|⟨D,c,v,lc,F,S,E,A,G⟩|⟨D,c,v,lc,s1,F,S,E,O,M,A,G⟩|⟨D,c,g,args,v,s1,F,J,I,u,_,q,E,O,M,A,G⟩|⟨D,F,E,V⟩|⟨D,c,n,args,v,s1,F,J,u,q,E,O,M,A,G⟩|⟨D,c,g,args,v,F,J,I,u,_,q,E,A,G⟩
  have H:(bh s.top.gE s.aL||isStore o.op)=false:=by rw[Vo (.inl c),jG];exact U
  obtain⟨j,s',w,B⟩:=WX.run (rs:=⟨i,s.aL,s.top.aL,bD (Q.hint f) o.dst fr.env o.op,bh s.top.gE s.aL||isStore o.op⟩::rs) hm (hr.cons rfl (fun _=>rfl) (fun _=>H) rfl) G;rw[<-nA hm] at w;exact⟨j,s',.step D (v:=v) (lc:=lc) (s1:=s.top) (S _) (vj hr A fun _=>H) rfl E w,B⟩;have H:(bh s.top.gE s.aL||isStore o.op)=false:=by rw[Vo (.inr c),jG];exact U
  obtain⟨j,s',w,B⟩:=WX.run (rs:=⟨i,s.aL,s.top.aL,bD (Q.hint f) o.dst fr.env o.op,bh s.top.gE s.aL||isStore o.op⟩::rs) hm (hr.cons rfl (fun _=>rfl) (fun _=>H) rfl) G;rw[<-nA hm] at w;refine⟨j,s',.step D (v:=v) (lc:=lc) (s1:=s.top) ?_ ?_ rfl E w,B⟩;show cy Q f o (iO b rs []) fr s.top=_;rw[yZ hr A];exact S;exact vj hr (xg A) fun _=>H;obtain⟨j,s',w,B⟩:=WX.run (rs:=⟨i,s.aL,s1.aL,bD (Q.hint f) o.dst fr.env o.op,bh s1.gE s.aL||isStore o.op⟩::rs) (pL hm M) (hr.cons rfl (fun h=>Qv h) (fun h=>by cases h) rfl) G;refine⟨j,s',.step D (v:=v) (lc:=lc) (s1:=s1) ?_ ?_ O E w,B⟩;show cy Q f o (iO b rs []) fr s.top=_;rw[yZ hr A];exact S;exact vj hr (xg A) fun h=>by cases h
  obtain⟨j,s',w,B⟩:=WX.run (rs:=⟨i,s.aL,s1.aL,bD (Q.hint f) o.dst fr.env o.op,bh s1.gE s.aL||isStore o.op⟩::rs) (pL hm M) (hr.cons rfl (fun h=>Qv h) (fun h=>by cases h) rfl) G;refine⟨j,s',.call D J I u (v:=v) (s1:=s1) ?_ ?_ O E w,B⟩;show LF Q g args (iO b rs []) s.top v s1;rw[yZ hr A];exact q;exact vj hr (xg A) fun h=>by cases h
  obtain⟨j,s',w,B⟩:=WX.run (rs:=rs) hm (fun r T=>hr r T) V;exact⟨j,s',.skip D E w,B⟩;obtain⟨j,s',w,B⟩:=WX.run (rs:=⟨i,s.aL,s1.aL,bD (Q.hint f) o.dst fr.env o.op,bh s1.gE s.aL||isStore o.op⟩::rs) (pL hm M) (hr.cons rfl (fun h=>Qv h) (fun h=>by cases h) rfl) G;refine⟨j,s',.yld D J u (v:=v) (s1:=s1) ?_ ?_ O E w,B⟩;show Tx Q n args (iO b rs []) s.top v s1;rw[yZ hr A];exact q;exact vj hr (xg A) fun h=>by cases h
  have H:(bh s.top.gE s.aL||isStore o.op)=false:=by
   rw[J];show(bh s.aL s.aL||false)=false;rw[U];rfl
  obtain⟨j,s',w,B⟩:=WX.run (rs:=⟨i,s.aL,s.top.aL,bD (Q.hint f) o.dst fr.env o.op,bh s.top.gE s.aL||isStore o.op⟩::rs) hm (hr.cons rfl (fun _=>rfl) (fun _=>H) rfl) G;rw[<-nA hm] at w;refine⟨j,s',.call D J I u (v:=v) (s1:=s.top) ?_ ?_ rfl E w,B⟩;show LF Q g args (iO b rs []) s.top v s.top;rw[yZ hr A];exact q;exact vj hr (xg A) fun _=>H
def W.drawX{bs:List Nat}{s:St}{K:Ex->Fr->St->Prop}(j:s.gE<=s.aL)(h:WX Q f 0 [] bs ops fr s fun fr s=>K .normal fr s):W Q f (.draw ops bs) fr s K:=
 let⟨_,_,h1,h2⟩:=WX.run (rs:=[]) j (fun _ h=>by cases h) h
 W.drawR h1 h2
def jR(Q:aF)(f g:FuncId)(args:List aa)(ft:cW)(i:Nat)(R:List gN)(b:Nat)(bs:List Nat)(d:Tmp)(e:aw)(sz:Nat)(lc:Loc)(s:St)(l:List ay)(N:Fr->St->Prop):Prop:=
 (∃v s1,aq Q g args s.top v s1/\d<sz/\s1.ci=s.ci/\s.aL<=s1.aL/\eh b ft true R=true/\WX Q f (i+1) (⟨i, !aK s1.aL s.aL,true,ft⟩::R) bs l ⟨e.set d (some v),sz,lc⟩ (s.GE s1) N)\/
 ∃v,aq Q g args s.top v s.top/\d<sz/\eh b ft false R=true/\WX Q f (i+1) (⟨i,false,false,ft⟩::R) bs l ⟨e.set d (some v),sz,lc⟩ s N
def jR.of{g:FuncId}{args:List aa}{ft:cW}{i:Nat}{R:List gN}{b:Nat}{bs:List Nat}{d:Tmp}{e:aw}{sz:Nat}{lc:Loc}{s s1:St}{l:List ay}{N:Fr->St->Prop}{v:aa}(j:aq Q g args s.top v s1)(A:s1.ci=s.ci)(u:s.aL<=s1.aL)(w:d<sz)(q:eh b ft true R=true)(h:WX Q f (i+1) (⟨i, !aK s1.aL s.aL,true,ft⟩::R) bs l ⟨e.set d (some v),sz,lc⟩ (s.GE s1) N):jR Q f g args ft i R b bs d e sz lc s l N:=.inl ⟨v,s1,j,w,A,u,q,h⟩
def jR.quiet{g:FuncId}{args:List aa}{ft:cW}{i:Nat}{R:List gN}{b:Nat}{bs:List Nat}{d:Tmp}{e:aw}{sz:Nat}{lc:Loc}{s:St}{l:List ay}{N:Fr->St->Prop}{v:aa}(j:aq Q g args s.top v s.top)(u:d<sz)(q:eh b ft false R=true)(h:WX Q f (i+1) (⟨i,false,false,ft⟩::R) bs l ⟨e.set d (some v),sz,lc⟩ s N):jR Q f g args ft i R b bs d e sz lc s l N:=.inr ⟨v,j,u,q,h⟩
def jR.calm{g:FuncId}{args:List aa}{ft:cW}{i:Nat}{R:List gN}{b:Nat}{bs:List Nat}{d:Tmp}{e:aw}{sz:Nat}{lc:Loc}{s:St}{l:List ay}{N:Fr->St->Prop}{v:aa}(u:s.gE<=s.aL)(j:aq Q g args s.top v s.top)(w:d<sz)(q:eh b ft true R=true)(h:WX Q f (i+1) (⟨i,false,true,ft⟩::R) bs l ⟨e.set d (some v),sz,lc⟩ s N):jR Q f g args ft i R b bs d e sz lc s l N:=
 jR.of j rfl (Nat.le_refl _) w q (by
  have A:(!aK s.top.aL s.aL)=false:=by show(!aK s.aL s.aL)=false;rw[ja];simp
  rw[A,nA u];exact h)
def GL(Q:aF)(f n:Nat)(args:List aa)(ft:cW)(i:Nat)(R:List gN)(b:Nat)(bs:List Nat)(d:Tmp)(e:aw)(sz:Nat)(lc:Loc)(s:St)(l:List ay)(N:Fr->St->Prop):Prop:=
 ∃v s1,iI Q n args s.top v s1/\d<sz/\s1.ci=s.ci/\s.aL<=s1.aL/\eh b ft true R=true/\WX Q f (i+1) (⟨i, !aK s1.aL s.aL,true,ft⟩::R) bs l ⟨e.set d (some v),sz,lc⟩ (s.GE s1) N
def GL.of{n:Nat}{args:List aa}{ft:cW}{i:Nat}{R:List gN}{b:Nat}{bs:List Nat}{d:Tmp}{e:aw}{sz:Nat}{lc:Loc}{s s1:St}{l:List ay}{N:Fr->St->Prop}{v:aa}(j:iI Q n args s.top v s1)(A:s1.ci=s.ci)(u:s.aL<=s1.aL)(w:d<sz)(q:eh b ft true R=true)(h:WX Q f (i+1) (⟨i, !aK s1.aL s.aL,true,ft⟩::R) bs l ⟨e.set d (some v),sz,lc⟩ (s.GE s1) N):GL Q f n args ft i R b bs d e sz lc s l N:=⟨v,s1,j,w,A,u,q,h⟩
def EP(Q:aF)(f:FuncId)(c:Nat)(ft:cW)(i:Nat)(R:List gN)(b:Nat)(bs:List Nat)(d:Option Tmp)(e:aw)(sz:Nat)(s:St)(l:List ay)(N:Fr->St->Prop)(p:aH->Option (aa×Loc×St)):Prop:=
 (c=3/\ ∃v lc j,(∀mk,p mk=some (v,lc,s.top))/\cR ⟨e,sz,lc⟩ d v lc=some j/\pf b ft false R=true/\WX Q f (i+1) (⟨i,false,false,ft⟩::R) bs l j s N)\/
 (c=0/\ ∃v lc j,p []=some (v,lc,s.top)/\cR ⟨e,sz,lc⟩ d v lc=some j/\eh b ft false R=true/\WX Q f (i+1) (⟨i,false,false,ft⟩::R) bs l j s N)\/
 (c=1/\ ∃v lc s1 j,p []=some (v,lc,s1)/\cR ⟨e,sz,lc⟩ d v lc=some j/\s1.ci=s.ci/\s.aL<=s1.aL/\eh b ft true R=true/\WX Q f (i+1) (⟨i, !aK s1.aL s.aL,true,ft⟩::R) bs l j (s.GE s1) N)
def KM(Q:aF)(f:FuncId)(ft:cW)(i:Nat)(R:List gN)(b:Nat)(bs:List Nat)(d:Option Tmp)(e:aw)(sz:Nat)(s:St)(l:List ay)(N:Fr->St->Prop)(x:Option (aa×Loc×St)):Prop:=
 ∃v lc j,x=some (v,lc,s.top)/\cR ⟨e,sz,lc⟩ d v lc=some j/\eh b ft false R=true/\WX Q f (i+1) (⟨i,false,false,ft⟩::R) bs l j s N
def DN(Q:aF)(f:FuncId)(ft:cW)(i:Nat)(R:List gN)(b:Nat)(bs:List Nat)(d:Option Tmp)(e:aw)(sz:Nat)(s:St)(l:List ay)(N:Fr->St->Prop)(x:Option (aa×Loc×St)):Prop:=
 ∃v lc s1 j,x=some (v,lc,s1)/\cR ⟨e,sz,lc⟩ d v lc=some j/\s1.ci=s.ci/\s.aL<=s1.aL/\eh b ft true R=true/\WX Q f (i+1) (⟨i, !aK s1.aL s.aL,true,ft⟩::R) bs l j (s.GE s1) N
def Ep(Q:aF)(f:FuncId)(ft:cW)(i:Nat)(R:List gN)(b:Nat)(bs:List Nat)(d:Tmp)(e:aw)(sz:Nat)(lc:Loc)(s:St)(l:List ay)(N:Fr->St->Prop)(g:FuncId)(args:List aa):Option (List aa->Option aa)->Prop
 |some sp=>KM Q f ft i R b bs (some d) e sz s l N ((sp args).bind fun v=>some (v,lc,s.top))
 |none=>jR Q f g args ft i R b bs d e sz lc s l N
def tm(Q:aF)(f:FuncId)(ft:cW)(i:Nat)(R:List gN)(b:Nat)(bs:List Nat)(d:Tmp)(e:aw)(sz:Nat)(lc:Loc)(s:St)(l:List ay)(N:Fr->St->Prop):Option aa->Option (List aa)->Prop
 |some (.func (.func g) x y),some args=>Ep Q f ft i R b bs d e sz lc s l N g (x++(args++y)) (Q.spec g)
 |some (.yld n),some args=>GL Q f n args ft i R b bs d e sz lc s l N
 |_,_=>False
def qE(Q:aF)(f:FuncId)(op:Op)(i:Nat)(R:List gN)(b:Nat)(bs:List Nat)(d:Tmp)(e:aw)(sz:Nat)(lc:Loc)(s:St)(l:List ay)(N:Fr->St->Prop):Bool->Prop
 |false=>EP Q f (gH op) (bD (Q.hint f) (some d) e op) i R b bs (some d) e sz s l N (fun mk=>cy Q f ⟨some d,op,.aw⟩ mk ⟨e,sz,lc⟩ s.top)
 |true=>match op with
  | .call {callee:=.value x,args:=xs, .. }=>tm Q f (bD (Q.hint f) (some d) e op) i R b bs d e sz lc s l N (ev e x) (evcs e xs.toList)
  |_=>False
def SK(Q:aF)(f:FuncId)(op:Op)(i:Nat)(R:List gN)(b:Nat)(bs:List Nat)(d:Tmp)(e:aw)(sz:Nat)(lc:Loc)(s:St)(l:List ay)(N:Fr->St->Prop):Bool->Prop
 |true=>qE Q f op i R b bs d e sz lc s l N (mF op)
 |false=>d<sz/\WX Q f (i+1) R bs l ⟨e.set d (some fL),sz,lc⟩ s N
section
variable{i b c:Nat}{R:List gN}{ft:cW}{bs:List Nat}{d:Tmp}{op:Op}{l:List ay}{e:aw}{sz:Nat}{lc:Loc}{s s1:St}{N:Fr->St->Prop}{v:aa}{t:Tmp}{tb:Bool}{x y args:List aa}{sp:List aa->Option aa}{g:FuncId}
theorem qE.to(F:eY e gd=true)(h:qE Q f op i R b bs d e sz lc s l N (mF op)):WX Q f i R (b::bs) (⟨some d,op,gd⟩::l) ⟨e,sz,lc⟩ s N:=by
 have put: ∀ {v j q},cR ⟨e,sz,j⟩ (some d) v j=some q->cR ⟨e,sz,lc⟩ (some d) v j=some q:=fun h=>h;cases hc:mF op with
 |false=>
  rw[hc] at h;rcases h with⟨E,v,j,q,D,A,B⟩|⟨E,v,j,q,D,A,B⟩|⟨E,v,j,s1,q,D,A,B⟩
  exact .inl ⟨F,E,v,j,q,D,put A,B⟩;exact .inr (.inl ⟨F,E,v,j,q,D,put A,B⟩);exact .inr (.inr (.inl ⟨F,E,v,j,s1,q,D,put A,B⟩))
 |true=>
  rw[hc] at h;unfold mF at hc;split at hc;rename_i _ x xs ts;have h:tm Q f (bD (Q.hint f) (some d) e (.call ⟨.value x,xs,ts⟩)) i R b bs d e sz lc s l N (ev e x) (evcs e xs.toList):=h;unfold tm at h;split at h;rename_i g a O args E D;have w:callee e ⟨.value x,xs,ts⟩=some (g,a++(args++O)):=by simp only[callee,E,D,bk]
  unfold Ep at h;split at h;rename_i sp G;obtain⟨v,j,q,A,B,H⟩:=h;simp only[ak,aM,bC] at A;obtain⟨u,I,rfl,rfl,_⟩:=A;refine .inr (.inl ⟨F,rfl,u,lc,q,?_,B,H⟩);show((callee e ⟨.value x,xs,ts⟩).bind fun g=>(Q.spec g.1).bind fun sp=>(sp g.2).bind fun v=>some (v,lc,s.top))=_
  grind
  rename_i G;rcases h with⟨v,s1,A,B,H,I,M,J⟩|⟨v,A,B,H,I⟩
  exact .inr (.inr (.inr (.inl ⟨F,_,g,_,v,s1,_,rfl,by simp,w,G,A,fS.2 ⟨B,rfl⟩,H,I,M,J⟩)));exact .inr (.inr (.inr (.inr (.inr (.inr ⟨F,_,g,_,v,_,rfl,by simp,w,G,A,fS.2 ⟨B,rfl⟩,H,I⟩)))));rename_i n args E D;obtain⟨v,s1,A,B,H,I,M,J⟩:=h;have w:yieldee e ⟨.value x,xs,ts⟩=some (n,args):=by simp only[yieldee,E,D,bk]
  exact .inr (.inr (.inr (.inr (.inr (.inl ⟨F,_,n,args,v,s1,_,rfl,w,A,fS.2 ⟨B,rfl⟩,H,I,M,J⟩)))));exact h.elim;cases hc
theorem MD{e:aw}{x:Operand}{g:FuncId}(h:callee e ⟨.value x,xs,ts⟩=some (g,as)): ∃a b args,ev e x=some (.func (.func g) a b)/\evcs e xs.toList=some args/\as=a++(args++b):=by
 grind [callee,ak]
theorem az7{e:aw}{x:Operand}{n:Nat}(h:yieldee e ⟨.value x,xs,ts⟩=some (n,as)):ev e x=some (.yld n)/\evcs e xs.toList=some as:=by
 grind [yieldee,ak]
theorem qE.of(Y:eY e gd=true)(h:WX Q f i R (b::bs) (⟨some d,op,gd⟩::l) ⟨e,sz,lc⟩ s N):qE Q f op i R b bs d e sz lc s l N (mF op):=by
 cases hc:mF op with
 |false=>
  rcases h with⟨_,j,v,B,q,A,w,D⟩|⟨_,j,v,B,q,A,w,D⟩|⟨_,j,v,B,s1,q,A,w,D⟩|⟨_,c,g,args,v,s1,q,j,A,w,_⟩|⟨j,_⟩|⟨_,c,n,args,v,s1,q,j,w,_⟩|⟨_,c,g,args,v,q,j,A,w,_⟩
  exact .inl ⟨j,v,B,q,A,w,D⟩;exact .inr (.inl ⟨j,v,B,q,A,w,D⟩);exact .inr (.inr ⟨j,v,B,s1,q,A,w,D⟩);have j:op= .call c:=j;subst j;obtain⟨O,as,ts⟩:=c;cases O with
  |builtin x=>exact absurd rfl (A x)
  |value x=>cases hc
  |invoke x y=>cases w
  grind
  have j:op= .call c:=j;subst j;obtain⟨O,as,ts⟩:=c;cases O with
  |builtin x=>cases w
  |value x=>cases hc
  |invoke x y=>cases w
  have j:op= .call c:=j;subst j;obtain⟨O,as,ts⟩:=c;cases O with
  |builtin x=>exact absurd rfl (A x)
  |value x=>cases hc
  |invoke x y=>cases w
 |true=>
  unfold mF at hc;split at hc;rename_i _ x xs ts;show tm Q f (bD (Q.hint f) (some d) e (.call ⟨.value x,xs,ts⟩)) i R b bs d e sz lc s l N (ev e x) (evcs e xs.toList);rcases h with⟨_,j,_⟩|⟨_,j,v,B,q,A,w,D⟩|⟨_,j,_⟩|⟨_,c,g,args,v,s1,q,j,A,w,D,M,J,I⟩|⟨j,_⟩|⟨_,c,n,args,v,s1,q,j,w,M,J,I⟩|⟨_,c,g,args,v,q,j,A,w,D,M,J,I⟩
  cases j;have A:((callee e ⟨.value x,xs,ts⟩).bind fun g=>(Q.spec g.1).bind fun sp=>(sp g.2).bind fun v=>some (v,lc,s.top))=some (v,B,s.top):=A;simp only[ak,aM,bC] at A;obtain⟨⟨g,as⟩,V,sp,S,u,U,rfl,rfl,_⟩:=A;obtain⟨a,T,args,F,E,rfl⟩:=MD V;simp only[F,E,tm];have S:Q.spec g=some sp:=S;rw[S];exact⟨u,lc,q,by simp only[U,bk],w,D⟩;cases j;have j:Op.call ⟨.value x,xs,ts⟩= .call c:=j;injection j with j
  subst j;obtain⟨a,T,G,F,E,rfl⟩:=MD w;simp only[F,E,tm];rw[D];obtain⟨H,rfl⟩:=fS.1 J;exact .inl ⟨v,s1,M,H,I⟩
  grind
  have j:Op.call ⟨.value x,xs,ts⟩= .call c:=j;injection j with j
  subst j;obtain⟨F,E⟩:=az7 w;simp only[F,E,tm];obtain⟨H,rfl⟩:=fS.1 J;exact⟨v,s1,M,H,I⟩;have j:Op.call ⟨.value x,xs,ts⟩= .call c:=j;injection j with j
  subst j;obtain⟨a,T,G,F,E,rfl⟩:=MD w;simp only[F,E,tm];rw[D];obtain⟨H,rfl⟩:=fS.1 J;exact .inr ⟨v,M,H,I⟩;cases hc
def af4:WX Q f i R bs [] fr s N=N fr s:=by cases bs<;>rfl
def af3:WX Q f i R (b::bs) (⟨some d,op,.aw⟩::l) ⟨e,sz,lc⟩ s N=qE Q f op i R b bs d e sz lc s l N (mF op):=propext ⟨qE.of rfl,qE.to rfl⟩
theorem af7:WX Q f i R (b::bs) (⟨some d,op,.when t tb⟩::l) ⟨e,sz,lc⟩ s N=SK Q f op i R b bs d e sz lc s l N (ku (ac e t) tb):=by
 apply propext;have j:eY e (.when t tb)=ku (ac e t) tb:=qg ..;cases hv:ku (ac e t) tb with
 |true=>
  rw[hv] at j;exact⟨qE.of j,qE.to j⟩
 |false=>
  rw[hv] at j;constructor
  ·rintro(⟨h,_⟩|⟨h,_⟩|⟨h,_⟩|⟨h,_⟩|⟨_,A,w,u⟩|⟨h,_⟩|⟨h,_⟩)
   grind
   grind
   grind
   grind
   obtain⟨q,rfl⟩:=fS.1 w;exact⟨q,u⟩
   all_goals grind
  exact fun h=>.inr (.inr (.inr (.inr (.inl ⟨j,_,fS.2 ⟨h.1,rfl⟩,h.2⟩))))
theorem Uo(D:gH op=1):WX Q f i R (b::bs) (⟨none,op,.aw⟩::l) ⟨e,sz,lc⟩ s N=DN Q f (bD (Q.hint f) none e op) i R b bs none e sz s l N (cy Q f ⟨none,op,.aw⟩ [] ⟨e,sz,lc⟩ s.top):=by
 apply propext;constructor;intro h;rcases h with⟨_,j,_⟩|⟨_,j,_⟩|⟨_,j,v,w,s1,q,A,u,E⟩|⟨_,c,g,args,v,s1,q,j,A,u,_⟩|⟨j,_⟩|⟨_,c,n,args,v,s1,q,j,u,_⟩|⟨_,c,g,args,v,q,j,A,u,_⟩
 grind
 grind
 exact⟨v,w,s1,q,A,u,E⟩;have j:op= .call c:=j;subst j;obtain⟨B,as,ts⟩:=c;cases B with
 |builtin x=>exact absurd rfl (A x)
 |value x=>cases D
 |invoke x y=>cases u
 cases j;have j:op= .call c:=j;subst j;obtain⟨B,as,ts⟩:=c;cases B with
 |builtin x=>cases u
 |value x=>cases D
 |invoke x y=>cases u
 have j:op= .call c:=j;subst j;obtain⟨B,as,ts⟩:=c;cases B with
 |builtin x=>exact absurd rfl (A x)
 |value x=>cases D
 |invoke x y=>cases u
 rintro⟨v,w,s1,q,A,u,E⟩;exact .inr (.inr (.inl ⟨rfl,D,v,w,s1,q,A,u,E⟩))
def af5{a x:Operand}:WX Q f i R (b::bs) (⟨none,.store ty a x,.aw⟩::l) ⟨e,sz,lc⟩ s N=DN Q f (bD (Q.hint f) none e (.store ty a x)) i R b bs none e sz s l N (cy Q f ⟨none,.store ty a x,.aw⟩ [] ⟨e,sz,lc⟩ s.top):=Uo rfl
def af6{m k x:Operand}:WX Q f i R (b::bs) (⟨none,.mapUpdate ty m k x,.aw⟩::l) ⟨e,sz,lc⟩ s N=DN Q f (bD (Q.hint f) none e (.mapUpdate ty m k x)) i R b bs none e sz s l N (cy Q f ⟨none,.mapUpdate ty m k x,.aw⟩ [] ⟨e,sz,lc⟩ s.top):=Uo rfl
def azx:SK Q f op i R b bs d e sz lc s l N true=qE Q f op i R b bs d e sz lc s l N (mF op):=rfl
def azw:SK Q f op i R b bs d e sz lc s l N false=(d<sz/\WX Q f (i+1) R bs l ⟨e.set d (some fL),sz,lc⟩ s N):=rfl
def ai4:qE Q f op i R b bs d e sz lc s l N false=EP Q f (gH op) (bD (Q.hint f) (some d) e op) i R b bs (some d) e sz s l N (fun mk=>cy Q f ⟨some d,op,.aw⟩ mk ⟨e,sz,lc⟩ s.top):=rfl
def ai3{x:Operand}:qE Q f (.call ⟨.value x,xs,ts⟩) i R b bs d e sz lc s l N true=tm Q f (bD (Q.hint f) (some d) e (.call ⟨.value x,xs,ts⟩)) i R b bs d e sz lc s l N (ev e x) (evcs e xs.toList):=rfl
def ahl:tm Q f ft i R b bs d e sz lc s l N (some (.func (.func g) x y)) (some args)=Ep Q f ft i R b bs d e sz lc s l N g (x++(args++y)) (Q.spec g):=rfl
def ahm{n:Nat}:tm Q f ft i R b bs d e sz lc s l N (some (.yld n)) (some args)=GL Q f n args ft i R b bs d e sz lc s l N:=rfl
def ahk:Ep Q f ft i R b bs d e sz lc s l N g args (some sp)=KM Q f ft i R b bs (some d) e sz s l N ((sp args).bind fun v=>some (v,lc,s.top)):=rfl
def ahj:Ep Q f ft i R b bs d e sz lc s l N g args none=jR Q f g args ft i R b bs d e sz lc s l N:=rfl
def alv:EP Q f 3 ft i R b bs (some d) e sz s l N (fun _=>some (v,lc,s.top))=(d<sz/\pf b ft false R=true/\WX Q f (i+1) (⟨i,false,false,ft⟩::R) bs l ⟨e.set d (some v),sz,lc⟩ s N):=by
 apply propext;constructor;rintro(⟨_,D,w,B,h,u,q,j⟩|⟨h,_⟩|⟨h,_⟩);have h:=h [];simp only[aM,bC,aT] at h;obtain⟨rfl,rfl⟩:=h;obtain⟨A,rfl⟩:=fS.1 u;exact⟨A,q,j⟩;cases h;cases h;rintro⟨u,q,j⟩;exact .inl ⟨rfl,v,lc,_,fun _=>rfl,fS.2 ⟨u,rfl⟩,q,j⟩
def alt{d:Option Tmp}:EP Q f 0 ft i R b bs d e sz s l N p=KM Q f ft i R b bs d e sz s l N (p []):=by
 apply propext;constructor;rintro(⟨h,_⟩|⟨_,h⟩|⟨h,_⟩);cases h;exact h;cases h;exact fun h=>.inr (.inl ⟨rfl,h⟩)
def alu{d:Option Tmp}:EP Q f 1 ft i R b bs d e sz s l N p=DN Q f ft i R b bs d e sz s l N (p []):=by
 apply propext;constructor;rintro(⟨h,_⟩|⟨h,_⟩|⟨_,h⟩);cases h;cases h;exact h;exact fun h=>.inr (.inr ⟨rfl,h⟩)
def axU:KM Q f ft i R b bs (some d) e sz s l N (some (v,lc,s.top))=(d<sz/\eh b ft false R=true/\WX Q f (i+1) (⟨i,false,false,ft⟩::R) bs l ⟨e.set d (some v),sz,lc⟩ s N):=by
 apply propext;constructor;rintro⟨E,u,D,h,q,j,A⟩;simp only[aM,bC,aT] at h;obtain⟨rfl,rfl⟩:=h;obtain⟨w,rfl⟩:=fS.1 q;exact⟨w,j,A⟩;rintro⟨q,B,j⟩;exact⟨v,lc,_,rfl,fS.2 ⟨q,rfl⟩,B,j⟩
def axW:DN Q f ft i R b bs (some d) e sz s l N (some (v,lc,s1))=(s1.ci=s.ci/\d<sz/\s.aL<=s1.aL/\eh b ft true R=true/\WX Q f (i+1) (⟨i, !aK s1.aL s.aL,true,ft⟩::R) bs l ⟨e.set d (some v),sz,lc⟩ (s.GE s1) N):=by
 apply propext;constructor;rintro⟨F,B,s',E,h,A,w,u,q,j⟩;simp only[aM,bC] at h;obtain⟨rfl,rfl,rfl⟩:=h;obtain⟨D,rfl⟩:=fS.1 A;exact⟨w,D,u,q,j⟩;rintro⟨A,w,u,q,j⟩;exact⟨v,lc,_,_,rfl,fS.2 ⟨w,rfl⟩,A,u,q,j⟩
def axV:DN Q f ft i R b bs none e sz s l N (some (v,lc,s1))=(s1.ci=s.ci/\s.aL<=s1.aL/\eh b ft true R=true/\WX Q f (i+1) (⟨i, !aK s1.aL s.aL,true,ft⟩::R) bs l ⟨e,sz,lc⟩ (s.GE s1) N):=by
 apply propext;constructor;rintro⟨E,B,s',A,h,j,D,w,u,q⟩;simp only[aM,bC] at h;obtain⟨rfl,rfl,rfl⟩:=h;have j:A=⟨e,sz,lc⟩:=(sI j).symm;subst j;exact⟨D,w,u,q⟩;rintro⟨j,w,u,q⟩;exact⟨v,lc,_,⟨e,sz,lc⟩,rfl,rfl,j,w,u,q⟩
end
def azV(t:TypeId)(a:Operand):gH (.load t a)=0:=rfl
def az4(t:TypeId)(a x:Operand):gH (.store t a x)=1:=rfl
def azI(t:TypeId):gH (.alloc t)=1:=rfl
def azM(t:TypeId)(x:Operand):gH (.box t x)=1:=rfl
def azR(t:TypeId)(a:Operand)(i:Nat):gH (.fieldAddr t a i)=3:=rfl
def azT(t:TypeId)(a i:Operand):gH (.indexAddr t a i)=3:=rfl
def azS(t:TypeId)(a i:Operand):gH (.index t a i)=3:=rfl
def az0(a:Operand):gH (.move a)=3:=rfl
def azK(a:Operand):gH (.assign a)=3:=rfl
def az2(a b c:Operand):gH (.pick a b c)=3:=rfl
def azN(t:TypeId)(ps:Array (Nat×Operand)):gH (.build t ps)=3:=rfl
def azO(t:TypeId)(n:Nat)(ps:Array (Nat×Operand)):gH (.buildSlice t n ps)=1:=rfl
def azL(o:BinOp)(t u:TypeId)(x y:Operand):gH (.binOp o t x y u)=3:=rfl
def az5(o:UnOp)(t:TypeId)(x:Operand):gH (.unOp o t x)=3:=rfl
def azQ(a:Operand)(i:Nat):gH (.extract a i)=3:=rfl
def az3(t:TypeId)(x:Operand)(a b c:Option Operand):gH (.slice t x a b c)=0:=rfl
def azW(t:TypeId)(x i:Operand)(b:Bool):gH (.lookup t x i b)=0:=rfl
def azJ(as:Array Operand)(ts:Array TypeId):gH (.call ⟨.builtin .append,as,ts⟩)=1:=rfl
def azU(as:Array Operand)(ts:Array TypeId):gH (.call ⟨.builtin .len,as,ts⟩)=0:=rfl
def azZ(as:Array Operand)(ts:Array TypeId):gH (.call ⟨.builtin .min,as,ts⟩)=0:=rfl
def azY(as:Array Operand)(ts:Array TypeId):gH (.call ⟨.builtin .max,as,ts⟩)=0:=rfl
def alM(h:Tmp->Nat)(d:Option Tmp)(e:aw)(t:TypeId)(x i:Operand)(b:Bool):bD h d e (.lookup t x i b)= .all:=rfl
def alS(h:Tmp->Nat)(d:Option Tmp)(e:aw)(a b c:Operand):bD h d e (.pick a b c)= .none:=rfl
def alH(h:Tmp->Nat)(d:Option Tmp)(e:aw)(t:TypeId)(x i:Operand):bD h d e (.index t x i)= .none:=rfl
def alW(h:Tmp->Nat)(d:Option Tmp)(e:aw)(t:TypeId)(m k x:Operand):bD h d e (.mapUpdate t m k x)= .all:=rfl
def alP(h:Tmp->Nat)(d:Option Tmp)(e:aw)(as:Array Operand)(ts:Array TypeId):bD h d e (.call ⟨.builtin .min,as,ts⟩)= .none:=rfl
def alO(h:Tmp->Nat)(d:Option Tmp)(e:aw)(as:Array Operand)(ts:Array TypeId):bD h d e (.call ⟨.builtin .max,as,ts⟩)= .none:=rfl
def goL:aa->cW
 | .map _=>.all
 |_=>.none
def alJ(h:Tmp->Nat)(d:Option Tmp)(e:aw)(t:Tmp)(ts:Array TypeId):bD h d e (.call ⟨.builtin .len,#[.tmp t],ts⟩)=goL (ac e t):=by
 show(match ev e (.tmp t) with|some (.map _)=>cW.all|_=>.none)=_;rw[dA];cases ac e t<;>rfl
def W6:aa->cW
 | .ptr n _=>.obj n
 |_=>.none
def alT(h:Tmp->Nat)(d:Option Tmp)(e:aw)(ty:TypeId)(t:Tmp)(a b c:Option Operand):bD h d e (.slice ty (.tmp t) a b c)=W6 (ac e t):=by
 show(match ev e (.tmp t) with|some (.ptr n _)=>cW.obj n|_=>.none)=_;rw[dA];cases ac e t<;>rfl
def als(n o:Nat):W6 (.ptr n o)= .obj n:=rfl
def alg(n o:Nat):H1 (.ptr n o)= .obj n:=rfl
def alp(n o:Nat):Cw (.ptr n o)= .none:=rfl
def alk(a b c d e:Nat):Cw (.arr a b c d e)= .none:=rfl
def alm(n:Nat)(xs:List aa)(r:lJ):Cw (.list n xs r)= .none:=rfl
def asl(t n:Nat):xJ (.loc t) (.obj n)=false:=rfl
def atU(t n:Nat):xJ (.obj n) (.loc t)=false:=rfl
def az6(t:TypeId)(m k x:Operand):gH (.mapUpdate t m k x)=1:=rfl
def atw(s:St)(o:aJ):(s.new o).aL=s.aL+1:=rfl
def avx(s:St)(n:Nat)(o:Option aJ):(s.put n o).aL=s.aL:=rfl
def atv(s:St)(o:aJ):(s.new o).ci=s.ci:=rfl
def avu(s:St)(n:Nat)(o:Option aJ):(s.put n o).ci=s.ci:=rfl
def agR(n:Nat):(n+1==n)=false:=by simp
def arH(n:Nat):(n<=n+1)=True:=eq_true (Nat.le_succ n)
def WE(Q:aF)(f:FuncId):SC->Fr->St->(Ex->Fr->St->Prop)->Prop
 | .skip,fr,s,K=>K .normal fr s
 | .ret,fr,s,K=>K .ret fr s
 | .exit id,fr,s,K=>K (.exit id) fr s
 | .seq a b,fr,s,K=>WE Q f a fr s (rB K fun fr s=>WE Q f b fr s K)
 | .cond o a b,fr,s,K=>(ev fr.env o=some (.bool true)/\WE Q f a fr s K)\/(ev fr.env o=some (.bool false)/\WE Q f b fr s K)
 | .block id b,fr,s,K=>WE Q f b fr s fun x=>K (x.block id)
 | .scope b,fr,s,K=>WE Q f b fr s K
 | .region ops,fr,s,K=>WV Q f ops fr s fun fr s=>K .normal fr s
 | .draw ops bs,fr,s,K=>W Q f (.draw ops bs) fr s K
 | .loop b,fr,s,K=>W Q f (.loop b) fr s K
 | .rfun g ps a b,fr,s,K=>W Q f (.rfun g ps a b) fr s K
 | .bad,fr,s,K=>W Q f .bad fr s K
def WE.sound: ∀ {c:SC} {fr:Fr} {s:St} {K:Ex->Fr->St->Prop},WE Q f c fr s K->W Q f c fr s K
 | .skip,_,_,_,h=>kO h
 | .ret,_,_,_,h=>W.ret h
 | .exit _,_,_,_,h=>W.exit h
 | .seq a b,fr,s,K,h=>cC ((WE.sound (c:=a) h).mono fun x fr s j=>by
  cases x with
  |normal=>exact WE.sound (c:=b) j
  |exit i=>exact j
  |ret=>exact j)
 | .cond o a b,fr,s,K,h=>by
   rcases h with⟨u,q⟩|⟨u,q⟩
   exact ib (t:=true) u (WE.sound (c:=a) q);exact ib (t:=false) u (WE.sound (c:=b) q)
 | .block id b,fr,s,K,h=>W.block (WE.sound (c:=b) h)
 | .scope b,fr,s,K,h=>W.scope (WE.sound (c:=b) h)
 | .region ops,fr,s,K,h=>W.region (WV.run h)
 | .draw ops bs,fr,s,K,h=>h
 | .loop _,_,_,_,h=>h
 | .rfun _ _ _ _,_,_,_,h=>h
 | .bad,_,_,_,h=>h
def EA(Q:aF)(f:FuncId)(a b:SC)(e:aw)(sz:Nat)(lc:Loc)(s:St)(K:Ex->Fr->St->Prop)(v:Option aa):Prop:=(v=some (.bool true)/\WE Q f a ⟨e,sz,lc⟩ s K)\/(v=some (.bool false)/\WE Q f b ⟨e,sz,lc⟩ s K)
section
variable{e:aw}{sz:Nat}{lc:Loc}{s:St}{K:Ex->Fr->St->Prop}{a b:SC}
def ae7:WE Q f .skip ⟨e,sz,lc⟩ s K=K .normal ⟨e,sz,lc⟩ s:=rfl
def ae3:WE Q f .ret ⟨e,sz,lc⟩ s K=K .ret ⟨e,sz,lc⟩ s:=rfl
def ae0{id:Nat}:WE Q f (.exit id) ⟨e,sz,lc⟩ s K=K (.exit id) ⟨e,sz,lc⟩ s:=rfl
def ae6:WE Q f (.seq a b) ⟨e,sz,lc⟩ s K=WE Q f a ⟨e,sz,lc⟩ s (rB K fun fr s=>WE Q f b fr s K):=rfl
def aeY:WE Q f (.cond o a b) ⟨e,sz,lc⟩ s K=EA Q f a b e sz lc s K (ev e o):=rfl
def aeX{id:Nat}:WE Q f (.block id b) ⟨e,sz,lc⟩ s K=WE Q f b ⟨e,sz,lc⟩ s fun x=>K (x.block id):=rfl
def ae5:WE Q f (.scope b) ⟨e,sz,lc⟩ s K=WE Q f b ⟨e,sz,lc⟩ s K:=rfl
def ae2:WE Q f (.region ops) ⟨e,sz,lc⟩ s K=WV Q f ops ⟨e,sz,lc⟩ s fun fr s=>K .normal fr s:=rfl
def aeZ{bs:List Nat}:WE Q f (.draw ops bs) ⟨e,sz,lc⟩ s K=W Q f (.draw ops bs) ⟨e,sz,lc⟩ s K:=rfl
def ae1:WE Q f (.loop b) ⟨e,sz,lc⟩ s K=W Q f (.loop b) ⟨e,sz,lc⟩ s K:=rfl
def ae4{p q:Code}:WE Q f (.rfun h ps p q) ⟨e,sz,lc⟩ s K=W Q f (.rfun h ps p q) ⟨e,sz,lc⟩ s K:=rfl
def aiH:EA Q f a b e sz lc s K (some (.bool true))=WE Q f a ⟨e,sz,lc⟩ s K:=by simp[EA]
def aiG:EA Q f a b e sz lc s K (some (.bool false))=WE Q f b ⟨e,sz,lc⟩ s K:=by simp[EA]
def W.loopE(h:WE Q f b fr s (rB K fun fr s=>W Q f (.loop b) fr s K)):W Q f (.loop b) fr s K:=W.loop1 h.sound
end
end
def ji:Ex->Bool
 | .normal=>true
 |_=>false
def jl:Ex->Option Ex
 | .normal=>none
 |x=>some x
variable{s:St}{Q:aF}
def iI.any{f:FuncId}{n:Nat}{env j:aD aa}{size:Nat}{a b:Code}{ca cb:SC}{P:aa->St->Prop}(H:s.get [] n=some (.loop f env size ps a b none))(G:ps.all (fun t=>bh t size)=true)(F:Gy ps args env=some j)(D:dY a=ca)(B:dY b=cb)(h:W Q f ca ⟨j,size,[]⟩ (s.put n none) fun x fr s1=>x= .normal/\W Q f cb fr s1 fun x _ u=>P (.bool (ji x)) (u.put n (some (.loop f env size ps a b (jl x))))): ∃v s',iI Q n args s v s'/\P v s':=by
 obtain⟨x,J,s1,A,rfl,y,I,u,w,E⟩:=h;obtain⟨k,hk⟩:=RJ A D;obtain⟨m,q⟩:=RJ w B;have hk:=(nB Q (Nat.le_max_left k m)).code _ _ _ _ _ _ hk;have q:=(nB Q (Nat.le_max_right k m)).code _ _ _ _ _ _ q;refine⟨_,_,⟨max k m,?_⟩,E⟩;unfold mX;cases y<;>simp only[H,bk,BD,G,cT,F,hk,zL,q,BC,ji,jl]
namespace aD
theorem all_of{α:Type}{p:α->Bool}: ∀ {t:aD α},(∀n x,t.get n=some x->p x=true)->t.all p=true
 | .nil,_=>rfl
 | .node l v r,h=>by
   have q:l.all p=true:=all_of fun n x u=>h (2*n+1) x (by
    grind [get_node])
   have j:r.all p=true:=all_of fun n x u=>h (2*n+2) x (by
    grind [get_node])
   cases v with
   |none=>
    show(true&&(l.all p&&r.all p))=true;rw[q,j];rfl
   |some z=>
    show(p z&&(l.all p&&r.all p))=true;rw[q,j,h 0 z (by rw[get_node,iP rfl])];rfl
theorem all_set{p:α->Bool}{t:aD α}{n:Nat}{x:α}(h:t.all p=true)(q:p x=true):(t.set n (some x)).all p=true:=all_of fun m y j=>by
 grind [get_set,all_get]
end aD
theorem rT(s:St)(n m:Nat)(o:Option aJ):(s.put n o).get [] m=bif m==n then o else s.get [] m:=by
 grind [St.get,St.put,dI,aD.get_set]
variable{seen:List Nat}{it m:Nat}
section
variable{α:Type}[DecidableEq α]{enc:α->aa}
def cY(enc:α->aa)(n:Nat):List (α×aa)->List dp
 | []=>[]
 |(k,v)::l=>⟨enc k,v,n⟩::cY enc (n+1) l
def cD(k:α):List (α×aa)->Option aa
 | []=>none
 |(a,v)::l=>if k=a then some v else cD k l
def jm(k:α):List (α×aa)->Nat
 | []=>0
 |(a,_)::l=>if k=a then 0 else jm k l+1
def en(k:α)(v:aa):List (α×aa)->List (α×aa)
 | []=>[(k,v)]
 |(a,u)::l=>if k=a then(k,v)::l else(a,u)::en k v l
structure BO (P:Program) (kt:TypeId) (enc:α->aa):Prop where
 eq: ∀a b,kg P 8 kt (enc a) (enc b)=some (decide (a=b))
 same: ∀a,tP (enc a) (enc a)=true
 ge: ∀a,(enc a).ge=true
def bM(enc:α->aa)(s:St)(m:Nat)(L:List (α×aa)):Prop:=s.get [] m=some (.map (cY enc 0 L) L.length)
omit [DecidableEq α] in
theorem M9: ∀(l r:List (α×aa)) (n:Nat),cY enc n (l++r)=cY enc n l++cY enc (n+l.length) r
 | [],r,n=>rfl
 |(a,v)::l,r,n=>by
  simp only[sP,cY,M9 l r (n+1),cX]
  grind
omit [DecidableEq α] in
def Nb: ∀(l:List (α×aa)) (n:Nat),(cY enc n l).length=l.length
 | [],_=>rfl
 |(a,v)::l,n=>by simp only[cY,cX,Nb l]
theorem P8(k j:α)(v:aa): ∀l,cD j (en k v l)=if j=k then some v else cD j l
 | []=>rfl
 |(a,u)::l=>by
  simp only[en];by_cases h:k=a
  grind [cD]
  simp only[iN h,cD,P8 k j v l]
  grind
def u6{k:α}{v:aa}: ∀ {l},cD k l=none->en k v l=l++[(k,v)]
 | [],_=>rfl
 |(a,u)::l,h=>by
  simp only[cD] at h;by_cases h1:k=a;simp[h1] at h;rw[iN h1] at h;simp only[en,iN h1,u6 h,sP]
theorem H6{k:α}{v u:aa}: ∀ {l:List (α×aa)},cD k l=some u->(en k v l).length=l.length
 | [],h=>by cases h
 |(a,w)::l,h=>by
  simp only[cD] at h;by_cases h1:k=a;simp[en,h1];rw[iN h1] at h;simp only[en,iN h1,cX,H6 h]
theorem XM{k:α}{v:aa}: ∀ {l:List (α×aa)},cD k l=some v->en k v l=l
 | [],h=>by cases h
 |(a,w)::l,h=>by
  simp only[cD] at h;by_cases h1:k=a
  grind [en]
  rw[iN h1] at h;simp only[en,iN h1,XM h]
def acz{k:α}: ∀ {l:List (α×aa)},cD k l=none->jm k l=l.length
 | [],_=>rfl
 |(a,u)::l,h=>by
  simp only[cD] at h;by_cases h1:k=a;simp[h1] at h;rw[iN h1] at h;simp only[jm,iN h1,acz h,cX]
def acy{k:α}{v:aa}: ∀ {l:List (α×aa)},jm k (en k v l)=jm k l
 | []=>by simp[en,jm]
 |(a,u)::l=>by
  by_cases h1:k=a;simp[en,jm,h1];simp only[en,jm,iN h1,acy]
def Nd{k:α}{u v:aa}: ∀ {l:List (α×aa)} {n:Nat},cD k l=some u->(cY enc n l).set (jm k l) ⟨enc k,v,n+jm k l⟩=cY enc n (en k v l)
 | [],_,h=>by cases h
 |(a,w)::l,n,h=>by
  simp only[cD] at h;by_cases h1:k=a;simp[en,jm,cY,h1];rw[iN h1] at h;simp only[en,jm,cY,iN h1,List.set_cons_succ];rw[<-Nd (l:=l) (n:=n+1) h,show n+(jm k l+1)=n+1+jm k l by omega]
theorem adh{k:α}{u v:aa}: ∀ {l:List (α×aa)} {n:Nat},cD k l=some u->zA (n+jm k l) v (cY enc n l)=some (cY enc n (en k v l))
 | [],_,h=>by cases h
 |(a,w)::l,n,h=>by
  simp only[cD] at h;by_cases h1:k=a;subst h1;simp[en,jm,cY,zA];rw[iN h1] at h;have q:aK n (n+(jm k l+1))=false:=by rw[ja];exact bN.2 (by omega)
  have j:=adh (v:=v) (l:=l) (n:=n+1) h
  grind [en,jm,cY,zA]
section
variable{P:Program}{kt:TypeId}(hK:BO P kt enc)
include hK
theorem Cq: ∀(l:List (α×aa)) (k:α) (n i:Nat),nu P kt (enc k) (cY enc n l) i=some ((cD k l).map fun v=>(i+jm k l,⟨enc k,v,n+jm k l⟩))
 | [],k,n,i=>rfl
 |(a,v)::l,k,n,i=>by
  simp only[cY,nu,hK.eq,bk,cD,jm];by_cases h:k=a;subst h;simp;simp only[dN h,cF,iN h];rw[Cq l k (n+1) (i+1)]
  grind
variable{t e:TypeId}(hk: ∀k:α,lw P t (enc k)=some (kt,e))
include hk
theorem qP{z:aa}(hz:ei P e=some z){l:List (α×aa)}(j:bM enc s m l)(k:α):oe P [] t (.map m) (enc k) false s=some ((cD k l).getD z):=by
 have j:s.get [] m=_:=j;simp only[oe,hk,bk,hz,A3,j,Cq hK l k 0 0];cases cD k l<;>rfl
def om(z:aa):Option aa->aa
 |some v=>.tup [v,.bool true]
 |none=>.tup [z,.bool false]
theorem yT{z:aa}(hz:ei P e=some z){l:List (α×aa)}(j:bM enc s m l)(k:α):oe P [] t (.map m) (enc k) true s=some (om z (cD k l)):=by
 have j:s.get [] m=_:=j;simp only[oe,hk,bk,hz,A3,j,Cq hK l k 0 0];cases cD k l<;>rfl
theorem vK{l:List (α×aa)}(j:bM enc s m l)(k:α)(v:aa):rz P [] t (.map m) (enc k) v s=some (s.put m (some (.map (cY enc 0 (en k v l)) (en k v l).length))):=by
 have j:s.get [] m=_:=j;simp only[rz,hk,bk,j,Cq hK l k 0 0];cases h:cD k l with
 |none=>
  simp only[sV,u6 h,M9,de,cX,ct,eM];rfl
 |some u=>
  have:=Nd (enc:=enc) (v:=v) (n:=0) h;rw[eM] at this;simp only[jZ,hK.same,cT,eM,this,H6 h]
theorem ajd{z:aa}(hz:ei P e=some z){l:List (α×aa)}(j:bM enc s m l)(k:α):sj P [] t (.map m) (enc k) s=some (.tup [(cD k l).getD z,.int .i64 (jm k l:Nat)],s.put m (some (.map (cY enc 0 (en k ((cD k l).getD z) l)) (en k ((cD k l).getD z) l).length))):=by
 have j:s.get [] m=_:=j;simp only[sj,hk,bk,hz,j,Cq hK l k 0 0];cases h:cD k l with
 |none=>
  simp only[sV,Option.getD_none,u6 h,M9,de,cX,ct,eM,acz h];rfl
 |some u=>
  have:=Nd (enc:=enc) (v:=u) (n:=0) h;rw[eM] at this;simp only[jZ,BM,hK.same,cT,eM,this,H6 h]
omit hK hk in
theorem Wk{l:List (α×aa)}{k:α}{u:aa}(j:bM enc s m l)(h:cD k l=some u)(v:aa):uQ [] (.map m) (.int .i64 (jm k l:Nat)) v s=some (s.put m (some (.map (cY enc 0 (en k v l)) (en k v l).length))):=by
 have j:s.get [] m=_:=j;have q:=adh (enc:=enc) (v:=v) (n:=0) h
 grind [uQ,pO,H6]
omit hK hk [DecidableEq α] in
theorem bM.put{L:List (α×aa)}:bM enc (s.put m (some (.map (cY enc 0 L) L.length))) m L:=by
 show(s.put m _).get [] m=_;rw[rT,bS];rfl
end
omit [DecidableEq α] in
theorem EF: ∀(L:List (α×aa)) (n:Nat) (e:dp),e∈cY enc n L->n<=e.born/\e.born<n+L.length
 | [],n,e,h=>by cases h
 |(a,v)::L,n,e,h=>by
  rcases dG.1 h with rfl|h
  grind
  have:=EF L (n+1) e h;simp only[cX];omega
omit [DecidableEq α] in
omit [DecidableEq α] in
theorem Na: ∀(L:List (α×aa)) (n:Nat) (e:dp),e∈cY enc n L-> ∃p:α×aa,L[e.born-n]? =some p/\e.key=enc p.1/\e.val=p.2
 | [],n,e,h=>by cases h
 |(a,v)::L,n,e,h=>by
  rcases dG.1 h with rfl|h
  exact⟨(a,v),by simp,rfl,rfl⟩;obtain⟨p,q,j⟩:=Na L (n+1) e h
  have:=EF L (n+1) e h
  grind
omit [DecidableEq α] in
def Nc: ∀(L:List (α×aa)) (n i:Nat) (p:α×aa),L[i]? =some p->⟨enc p.1,p.2,n+i⟩∈cY enc n L
 | [],n,i,p,h=>by cases h
 |(a,v)::L,n,0,p,h=>by
  simp only[kz,aM] at h;subst h;exact fE
 |(a,v)::L,n,i+1,p,h=>by
  rw[mg] at h
  have:=Nc L (n+1) i p h;rw[show n+(i+1)=n+1+i by omega];exact List.mem_cons_of_mem _ this
omit [DecidableEq α] in
def Wu: ∀(L:List (α×aa)) (n:Nat) (e:dp),e∈cY enc n L->AC e.born (cY enc n L)=some e
 | [],n,e,h=>by cases h
 |(a,v)::L,n,e,h=>by
  simp only[cY,AC];rcases dG.1 h with rfl|h
  simp;have j:=EF L (n+1) e h;have:aK n e.born=false:=by
   rw[ja];exact bN.2 (by omega)
  rw[this];exact Wu L (n+1) e h
theorem Qg{es:List dp}{e:dp}:e∈l9 seen es↔e∈es/\e.born ∉ seen:=by
 simp only[l9,List.mem_filter,oA,List.any_eq_false];constructor;rintro⟨u,q⟩;exact⟨u,fun j=>q _ j (by simp)⟩
 grind [jI]
structure iT (enc:α->aa) (s:St) (it m:Nat) (L:List (α×aa)) (seen:List Nat):Prop where
 hi:s.get [] it=some (.iter (some m) L.length seen L.length)
 hm:bM enc s m L
 nd:seen.Nodup
 lt: ∀b∈seen,b<L.length
omit [DecidableEq α] in
theorem iT.calm{L:List (α×aa)}(c:iT enc s it m L seen)(ch kmax:Nat->Nat):o6 [] ch kmax (.ptr it 0) false s=tX ch kmax it m L.length seen L.length (l9 seen (cY enc 0 L)) s:=by
 have j:s.get [] m=_:=c.hm;simp only[o6,c.hi,j,bk,cF];have:(!seen.isEmpty&& !(cY enc 0 L).isEmpty&&(cY enc 0 L).all fun e=>bu L.length e.born)=false:=by
  cases L with
  |nil=>simp[cY]
  |cons x L=>
   grind [cY,bu]
 rw[this];rfl
omit [DecidableEq α] in
theorem iT.aL{L:List (α×aa)}(c:iT enc s it m L seen)(ch kmax:Nat->Nat)(hk: ∀i,L.length<=kmax i):
 (seen.Perm (List.range L.length)/\o6 [] ch kmax (.ptr it 0) false s=some (.tup [.bool false],s))\/
 ∃(b:Nat) (p:α×aa) (s':St),L[b]? =some p/\b ∉ seen/\seen.length<L.length/\o6 [] ch kmax (.ptr it 0) false s=some (.tup [.bool true,enc p.1,p.2],s')/\(∀n,n≠it->s'.get [] n=s.get [] n)/\s'.get [] it=some (.iter (some m) L.length (seen++[b]) L.length)/\s'.aL=s.aL/\s'.gE=(s.put it none).gE:=by
 rw[c.calm];have u: ∀e∈l9 seen (cY enc 0 L),bh e.born L.length=true:=fun e J=>by
  have:=EF L 0 e (Qg.1 J).1;exact cN (by omega)
 have q:(l9 seen (cY enc 0 L)).length<=L.length:=by
  have w:(l9 seen (cY enc 0 L)).length<=(cY enc 0 L).length:=List.length_filter_le _ _;rw[Nb] at w;exact w
 have F: ∀b,b<L.length->b ∉ seen->seen.length<L.length:=fun b j B=>by
  have w:(b::seen).Nodup:=BK.2 ⟨B,c.nd⟩;have D:(b::seen) ⊆ List.range L.length:=fun x E=>by
   rcases dG.1 E with rfl|E
   exact xP.2 j;exact xP.2 (c.lt x E)
  have:=w.length_le_of_subset D
  grind
 have pick: ∀(e:dp) (s1:St),e∈l9 seen (cY enc 0 L)->s1.heap=(s.put it (some (.iter (some m) L.length (seen++[e.born]) L.length))).heap->s1.aL=s.aL->s1.gE=(s.put it none).gE->
  ∃(b:Nat) (p:α×aa) (s':St),L[b]? =some p/\b ∉ seen/\seen.length<L.length/\some (aa.tup [.bool true,e.key,e.val],s1)=some (.tup [.bool true,enc p.1,p.2],s')/\(∀n,n≠it->s'.get [] n=s.get [] n)/\s'.get [] it=some (.iter (some m) L.length (seen++[b]) L.length)/\s'.aL=s.aL/\s'.gE=(s.put it none).gE:=fun e s1 J O B G=>by
  obtain⟨w,D⟩:=Qg.1 J;obtain⟨p,U,T,S⟩:=Na L 0 e w;have Y:=EF L 0 e w;have V: ∀n,s1.get [] n=(s.put it (some (.iter (some m) L.length (seen++[e.born]) L.length))).get [] n:=fun n=>by
   show(bif dI [] n then none else s1.heap.get n)=_;rw[O];rfl
  refine⟨e.born,p,s1,by simpa using U,D,F _ (by omega) D,by rw[T,S],fun n M=>?_,?_,B,G⟩
  all_goals grind [rT]
 cases hu:l9 seen (cY enc 0 L) with
 |nil=>
  refine .inl ⟨?_,rfl⟩;refine(List.perm_ext_iff_of_nodup c.nd List.nodup_range).2 fun b=>⟨fun j=>xP.2 (c.lt b j),fun j=>?_⟩;have j:=xP.1 j;refine Decidable.byContradiction fun B=>?_;have:(⟨enc (L[b]).1,(L[b]).2,0+b⟩:dp)∈l9 seen (cY enc 0 L):=Qg.2 ⟨Nc L 0 b _ (gB j),by simpa using B⟩;rw[hu] at this;cases this
 |cons e r=>
  right;rw[hu] at u q pick;have j:((e::r).all fun e=>bh e.born L.length)=true:=fD.2 u;cases r with
  |nil=>
   have:=pick e (vF it m L.length L.length seen e s).2 (by simp) rfl rfl rfl;simp only[tX,j,cT];exact this
  |cons A r=>
   have I:bu (e::A::r).length (kmax s.ci)=true:=cN (Nat.le_trans q (hk _));have H:ch s.ci % (e::A::r).length<(e::A::r).length:=Nat.mod_lt _ (by simp)
   have:=pick (e::A::r)[ch s.ci % (e::A::r).length] { (vF it m L.length L.length seen (e::A::r)[ch s.ci % (e::A::r).length] s).2 with ci:=s.ci+1 } (List.getElem_mem _) rfl rfl rfl;simp only[tX,j,cT,I,gB H,bk];exact this
omit [DecidableEq α] in
theorem iT.entry{L:List (α×aa)}{b:Nat}{p:α×aa}(u:s.get [] it=some (.iter (some m) L.length (seen++[b]) L.length))(j:bM enc s m L)(q:L[b]? =some p):wy [] (.ptr it 0) s=some (.tup [enc p.1,p.2]):=by
 have j:s.get [] m=_:=j;have w:=Wu (enc:=enc) L 0 _ (Nc L 0 b p q)
 grind [wy,ja]
omit [DecidableEq α] in
theorem iT.go{b:Nat}{L:List (α×aa)}{p:α×aa}(c:iT enc s it m L seen)(q:m≠it)(D:L[b]? =some p)(B:b ∉ seen)(u: ∀n,n≠it->s'.get [] n=s.get [] n)(w:s'.get [] it=some (.iter (some m) L.length (seen++[b]) L.length)):iT enc s' it m L (seen++[b]):=
 ⟨w,(u m q).trans c.hm,List.nodup_append.2 ⟨c.nd,by simp,fun x j y A e=>by grind⟩,fun x j=>by
  rcases List.mem_append.1 j with j|j
  exact c.lt x j
  grind⟩
omit [DecidableEq α] in
theorem iT.begin{L:List (α×aa)}(q:bM enc s m L)(u:m<s.aL):iT enc (s.new (.iter (some m) L.length [] L.length)) s.aL m L []:=by
 have j: ∀n,(s.new (.iter (some m) L.length [] L.length)).get [] n=bif n==s.aL then some (.iter (some m) L.length [] L.length) else s.get [] n:=fun n=>by
  grind [St.get,St.new,dI,aD.get_set]
 refine⟨by rw[j,bS];rfl,?_,List.nodup_nil,fun _ h=>by cases h⟩;show(s.new _).get [] m=_;rw[j,bN.2 (by omega:m≠s.aL)];exact q
omit [DecidableEq α] in
theorem iT.new{P:Program}{t kt e:TypeId}(q:P.underlying t=some (.map kt e)){L:List (α×aa)}(j:bM enc s m L):t6 P [] t (.map m) s=some (.ptr s.aL 0,s.new (.iter (some m) L.length [] L.length)):=by
 have j:s.get [] m=_:=j;simp only[t6,q,bk,j]
end
section
variable{Q:aF}{f:FuncId}{e:aw}{sz:Nat}{lc:Loc}{s:St}{d:Option Tmp}{g:SG}{mk:aH}
def HX(t:TypeId)(x:Operand):cy Q f ⟨d,.range t x,g⟩ mk ⟨e,sz,lc⟩ s=(evc e x).bind fun x=>f9 (t6 Q.P mk t x s) lc:=rfl
def yB(x:Operand)(b:Bool):cy Q f ⟨d,.next x b,g⟩ mk ⟨e,sz,lc⟩ s=(evc e x).bind fun it=>f9 (o6 mk Q.ch Q.kmax it b s) lc:=rfl
def EN(x:Operand):cy Q f ⟨d,.entry x,g⟩ mk ⟨e,sz,lc⟩ s=(evc e x).bind fun it=>eX (wy mk it s) lc s:=rfl
def NV(t:TypeId)(m k:Operand):cy Q f ⟨d,.mapEntry t m k,g⟩ mk ⟨e,sz,lc⟩ s=(evc e m).bind fun m=>(evc e k).bind fun k=>f9 (sj Q.P mk t m k s) lc:=rfl
def NT(t:TypeId)(m j x:Operand):cy Q f ⟨d,.entryStore t m j x,g⟩ mk ⟨e,sz,lc⟩ s=(evc e m).bind fun m=>(evc e j).bind fun j=>(evc e x).bind fun x=>nN (uQ mk m j x s) lc:=rfl
end
theorem W2(s:St)(m:Nat)(o:aJ):(s.new o).get [] m=bif m==s.aL then some o else s.get [] m:=by
 grind [St.get,St.new,dI,aD.get_set]
theorem FN(s:St)(n:Nat)(o:Option aJ)(h:s.gE<=s.aL):(s.put n o).gE<=(s.put n o).aL:=by
 show(bif bu s.gE n then s.gE else n)<=s.aL
 grind [cN]
variable{lo:Nat}
section
variable{α:Type}[DecidableEq α]{enc:α->aa}
def gc(K:List α)(f:α->aa):List (α×aa):=K.map fun k=>(k,f k)
def kq{β:Type}(f:α->β)(k:α)(v:β):α->β:=fun x=>if x=k then v else f x
def eD(k:α)(K:List α):List α:=if k∈K then K else K++[k]
theorem ru{β:Type}(f:α->β)(k:α)(v:β):kq f k v k=v:=by simp[kq]
theorem kN{β:Type}(f:α->β){k x:α}(v:β)(h:x≠k):kq f k v x=f x:=by simp[kq,h]
theorem nD{k x:α}{K:List α}:x∈eD k K↔x=k\/x∈K:=by
 grind [eD]
theorem xX{k:α}{K:List α}(h:K.Nodup):(eD k K).Nodup:=by
 grind [eD]
theorem agd(k:α)(K:List α):K.length<=(eD k K).length/\(eD k K).length<=K.length+1:=by
 grind [eD]
omit [DecidableEq α] in
def ue(K:List α)(f:α->aa):(gc K f).length=K.length:=bU ..
def CU(k:α)(f:α->aa): ∀K:List α,cD k (gc K f)=if k∈K then some (f k) else none
 | []=>rfl
 |a::K=>by
  show(if k=a then some (f a) else cD k (gc K f))=_;by_cases h:k=a;subst h;simp;rw[iN h,CU k f K];simp[h]
omit [DecidableEq α] in
theorem KR{K:List α}{f g:α->aa}(h: ∀k∈K,f k=g k):gc K f=gc K g:=List.map_congr_left fun k hk=>by rw[h k hk]
theorem CB{k:α}{v:aa}(f:α->aa): ∀ {K:List α},K.Nodup->en k v (gc K f)=gc (eD k K) (kq f k v)
 | [],_=>by simp[gc,en,eD,kq]
 |a::K,nd=>by
  have j:=BK.1 nd;show en k v ((a,f a)::gc K f)=_;by_cases h:k=a;subst h;have q:k∈k::K:=fE;simp only[en,if_true,eD,iP q];show _=(k,kq f k v k)::gc K (kq f k v)
  grind [KR,kq]
  have u:=CB (k:=k) (v:=v) f j.2
  grind [eD,en,gc,kN]
variable{β:Type}{encE:β->aa}
structure ta (enc:α->aa) (encE:β->aa) (s:St) (m lo:Nat) (K:List α) (V:α->List β) (T:α->Nat):Prop where
 hm:bM enc s m (gc K fun k=>.list 1 ((V k).map encE) (.own (T k)))
 nd:K.Nodup
 tok: ∀k∈K,s.get [] (T k)=some .tok/\lo<=T k/\T k<s.aL
 inj: ∀k∈K, ∀k'∈K,T k=T k'->k=k'
 out: ∀k,k ∉ K->V k=[]
 mlt:m<lo
 los:lo<=s.aL
omit [DecidableEq α] in
def ta.mono{K:List α}{V:α->List β}{T:α->Nat}(h:ta enc encE s m lo K V T)(q:s'.get [] m=s.get [] m)(j: ∀k∈K,s'.get [] (T k)=s.get [] (T k))(u:s.aL<=s'.aL):ta enc encE s' m lo K V T:=
 ⟨q.trans h.hm,h.nd,fun k hk=>⟨(j k hk).trans (h.tok k hk).1,(h.tok k hk).2.1,by have:=(h.tok k hk).2.2;omega⟩,h.inj,h.out,h.mlt,by have:=h.los;omega⟩
section
variable{P:Program}{kt t e:TypeId}(hK:BO P kt enc)(hk: ∀k:α,lw P t (enc k)=some (kt,e))(hz:ei P e=some .Ge)
include hK hk hz
theorem ta.look{K:List α}{V:α->List β}{T:α->Nat}(h:ta enc encE s m lo K V T)(k:α): ∃v,oe P [] t (.map m) (enc k) false s=some v/\au 1 encE v (V k):=by
 have j:=qP hK hk hz h.hm k;rw[CU] at j;by_cases hm:k∈K;rw[iP hm] at j;exact⟨_,j,.inr ⟨_,rfl⟩⟩;rw[iN hm] at j;exact⟨_,j,.inl ⟨rfl,h.out k hm⟩⟩
theorem ta.app{ts:TypeId}{E:EI}(hE:lY P ts=some E)(hn:E.n=1)(hb: ∀n,n<=1000000->iR n E.b=true){K:List α}{V:α->List β}{T:α->Nat}(h:ta enc encE s m lo K V T)(k:α)(x:β)(a9:(V k).length<1000000)(a0:s.gE<=s.aL):
 ∃(v0:aa) (p:Nat) (s1:St) (ov:aa) (s2 S:St),sj P [] t (.map m) (enc k) s=some (.tup [v0,.int .i64 (p:Nat)],s1)/\v0.ge=true/\eU P [] ts v0 (.list 1 [encE x] .GT) false s1=some (ov,s2)/\ov.ge=true/\uQ [] (.map m) (.int .i64 (p:Nat)) ov s2=some S/\
  ta enc encE S m lo (eD k K) (kq V k (V k++[x])) (kq T k s.aL)/\(∀n,n<lo->n≠m->S.get [] n=s.get [] n)/\S.aL=s.aL+1/\S.ci=s.ci/\S.gE<=S.aL:=by
 have w:=ajd hK hk hz h.hm k;have hr:iR ((V k).length+1) E.b=true:=hb _ (by omega);have a2:=h.mlt;have a3:=h.los;have a1:m≠s.aL:=by omega
 rw[CU] at w;by_cases hmem:k∈K;rw[iP hmem] at w;have U:en k (.list 1 ((V k).map encE) (.own (T k))) (gc K fun k=>.list 1 ((V k).map encE) (.own (T k)))=gc K fun k=>.list 1 ((V k).map encE) (.own (T k)):=XM (by rw[CU,iP hmem]);simp only[BM,U] at w;obtain⟨t1,t2,t3⟩:=h.tok k hmem;have a4:T k≠m:=by omega
 have G:eD k K=K:=by unfold eD;rw[iP hmem]
 generalize hp:jm k (gc K fun k=>aa.list 1 ((V k).map encE) (.own (T k)))=p at w;have a8:(s.put m (some (.map (cY enc 0 (gc K fun k=>.list 1 ((V k).map encE) (.own (T k)))) (gc K fun k=>aa.list 1 ((V k).map encE) (.own (T k))).length))).get [] (T k)=some .tok:=by rw[rT,bN.2 a4];exact t1
 generalize hs1:s.put m (some (.map (cY enc 0 (gc K fun k=>.list 1 ((V k).map encE) (.own (T k)))) (gc K fun k=>aa.list 1 ((V k).map encE) (.own (T k))).length))=s1 at w a8;have n1:s1.aL=s.aL:=by rw[<-hs1];rfl
 have g1: ∀n,n≠m->s1.get [] n=s.get [] n:=fun n Y=>by grind [rT]
 have m1:bM enc s1 m (gc K fun k=>.list 1 ((V k).map encE) (.own (T k))):=by rw[<-hs1];exact bM.put
 have w1:s1.gE<=s1.aL:=by rw[<-hs1];exact FN _ _ _ a0
 have g2: ∀n,((s1.put (T k) none).new .tok).get [] n=bif n==s.aL then some .tok else bif n==T k then none else s1.get [] n:=fun n=>by rw[W2,rT];show(bif n==s1.aL then _ else _)=_;rw[n1]
 have m2:bM enc ((s1.put (T k) none).new .tok) m (gc K fun k=>.list 1 ((V k).map encE) (.own (T k))):=by
  show St.get _ [] m=_;rw[g2,bN.2 a1,bN.2 a4.symm];exact m1
 have H:=Wk (v:=.list 1 ((V k++[x]).map encE) (.own s.aL)) m2 (k:=k) (u:=.list 1 ((V k).map encE) (.own (T k))) (by rw[CU,iP hmem]);rw[hp,CB _ h.nd,G] at H;refine⟨_,p,s1,.list 1 ((V k++[x]).map encE) (.own s.aL),(s1.put (T k) none).new .tok,_,w,rfl,?_,rfl,H,⟨?_,by rw[G];exact h.nd,fun j D=>?_,fun j D O J e=>?_,fun j D=>?_,a2,?_⟩,fun n hn Y=>?_,by show s1.aL+1=_;rw[n1],?_,?_⟩
 grind [eU,ee,ja,ju]
 grind [kq,KR,bM.put]
 rw[G] at D;by_cases q:j=k;subst q;rw[ru];refine⟨?_,a3,?_⟩
 grind [rT]
 show s.aL<s1.aL+1;omega;obtain⟨u1,u2,u3⟩:=h.tok j D;rw[kN _ _ q];have e1:T j≠m:=by omega
 have e2:T j≠s.aL:=by omega
 have e3:T j≠T k:=fun e=>q (h.inj j D k hmem e);refine⟨?_,u2,?_⟩
 grind [rT]
 show T j<s1.aL+1;omega;rw[G] at D J;by_cases q:j=k<;>by_cases B:O=k;rw[q,B];subst q;rw[ru,kN _ _ B] at e
 have:=(h.tok O J).2.2;omega;subst B;rw[ru,kN _ _ q] at e
 have:=(h.tok j D).2.2;omega;rw[kN _ _ q,kN _ _ B] at e;exact h.inj j D O J e;rw[G] at D;have q:j≠k:=fun e=>D (e▸hmem);rw[kN _ _ q];exact h.out j D;show lo<=s1.aL+1;omega
 grind [rT]
 show s1.ci=_;rw[<-hs1];rfl;refine FN _ _ _ ?_;exact bW (FN _ _ _ w1);rw[iN hmem] at w;have hV:=h.out k hmem;have G:eD k K=K++[k]:=by unfold eD;rw[iN hmem]
 simp only[Option.getD_none] at w;rw[CB _ h.nd] at w;generalize hp:jm k (gc K fun k=>aa.list 1 ((V k).map encE) (.own (T k)))=p at w;generalize hF:kq (fun k=>aa.list 1 ((V k).map encE) (.own (T k))) k .Ge=F at w;generalize hs1:s.put m (some (.map (cY enc 0 (gc (eD k K) F)) (gc (eD k K) F).length))=s1 at w;have n1:s1.aL=s.aL:=by rw[<-hs1];rfl
 have g1: ∀n,n≠m->s1.get [] n=s.get [] n:=fun n Y=>by grind [rT]
 have m1:bM enc s1 m (gc (eD k K) F):=by rw[<-hs1];exact bM.put
 have w1:s1.gE<=s1.aL:=by rw[<-hs1];exact FN _ _ _ a0
 have g2: ∀n,(s1.new .tok).get [] n=bif n==s.aL then some .tok else s1.get [] n:=fun n=>by rw[W2,n1]
 have m2:bM enc (s1.new .tok) m (gc (eD k K) F):=by
  show St.get _ [] m=_;rw[g2,bN.2 a1];exact m1
 have a5:jm k (gc (eD k K) F)=p:=by
  rw[<-hp,<-hF,<-CB _ h.nd,acy]
 have H:=Wk (v:=.list 1 ([x].map encE) (.own s.aL)) m2 (k:=k) (u:=F k) (by rw[CU,iP (nD.2 (.inl rfl))]);rw[a5,CB _ (xX h.nd)] at H;have Z:eD k (eD k K)=eD k K:=by
  have:k∈eD k K:=nD.2 (.inl rfl);generalize eD k K=A at this ⊢;unfold eD;rw[iP this]
 rw[Z] at H;refine⟨.Ge,p,s1,.list 1 ([x].map encE) (.own s.aL),s1.new .tok,_,w,rfl,?_,rfl,H,⟨?_,xX h.nd,fun j D=>?_,fun j D O J e=>?_,fun j D=>?_,a2,?_⟩,fun n hn Y=>?_,by show s1.aL+1=_;rw[n1],?_,?_⟩
 grind [iR,eU,ee,ja,ju,ki]
 have:gc (eD k K) (kq F k (.list 1 ([x].map encE) (.own s.aL)))=gc (eD k K) fun j=>.list 1 ((kq V k (V k++[x]) j).map encE) (.own (kq T k s.aL j)):=KR fun j _=>by
  by_cases q:j=k
  grind [ru]
  rw[<-hF];simp only[kN _ _ q]
 rw[this];exact bM.put;rcases nD.1 D with rfl|D
 rw[ru];refine⟨?_,a3,?_⟩
 grind [rT]
 show s.aL<s1.aL+1;omega;obtain⟨u1,u2,u3⟩:=h.tok j D;have q:j≠k:=fun e=>hmem (e▸D);rw[kN _ _ q];have e1:T j≠m:=by omega
 have e2:T j≠s.aL:=by omega
 refine⟨?_,u2,?_⟩
 grind [rT]
 show T j<s1.aL+1;omega;rcases nD.1 D with q|qj<;>rcases nD.1 J with B|M
 rw[q,B];have I:O≠k:=fun e=>hmem (e▸M);rw[q,ru,kN _ _ I] at e
 have:=(h.tok O M).2.2;omega;have I:j≠k:=fun e=>hmem (e▸qj);rw[B,ru,kN _ _ I] at e
 have:=(h.tok j qj).2.2;omega;have I:j≠k:=fun e=>hmem (e▸qj);have a6:O≠k:=fun e=>hmem (e▸M);rw[kN _ _ I,kN _ _ a6] at e;exact h.inj j qj O M e;have a7:j≠k:=fun e=>D (nD.2 (.inl e));rw[kN _ _ a7];exact h.out j fun hm=>D (nD.2 (.inr hm));show lo<=s1.aL+1;omega
 grind [rT]
 show s1.ci=_;rw[<-hs1];rfl;exact FN _ _ _ (bW w1)
end
end
def Hv(n o:Nat):(aa.ptr n o).cells=[.ptr n o]:=rfl
def B4(f:Fn)(a b:List aa):(aa.func f a b).cells=[.func f a b]:=rfl
def az1(a:Operand):gH (.nilCheck a)=3:=rfl
def alR(h:Tmp->Nat)(d:Option Tmp)(e:aw)(a:Operand):bD h d e (.nilCheck a)=qL e a:=rfl
attribute[go_sem]Uj Ui Uk adN aeH aeG isStore fP fH Eh LK Ud Uh Sb adM aeF aeE aeD aeC aeA aez aey aex aeB abo abn iQ uY fQ f7 aaj aci QZ ack ab1 ab3 ab4 ab5 ace acm ab2 acn ab9 aca acb acd Q7 acf Q8 ach acg acj ab8 ab6 ab7 Vn dA Nf Wl Wm Wo Wn pd nH FV Va U9 aab Jy acw acv acu pO RC acW acV U1 U0 UZ ni UY U2 UX U3 Vf Vh Vg Vb Ve Vc Vd aen U5 U4 Xh lO Vt Vs Vr ME adR Option.bind_some Option.bind_none VF VH VP VD VI VO VN VJ VM VL VK Ar cond_true cond_false List.length_cons List.length_nil cut eR List.head?_cons List.drop_succ_cons List.drop_zero List.take_succ_cons List.take_zero List.nil_append List.cons_append List.append_nil yG Bool.not_true Bool.not_false beq_self_eq_true Nat.beq_eq_true_eq and_true true_and Nat.zero_add Nat.add_zero Bool.true_and Bool.and_true Bool.false_and Bool.and_false Bool.not_not ja ol JG decide_true decide_false Tq Tk Td Tp Tb Ta Tn Tg Tc Tf Wa V9 aaW Qy fe qA U8 Mr LL Ul Um Un aeJ aeI adQ adP tD or_true true_or false_or nA aef eq_self Bool.true_or Bool.false_or Bool.or_true Bool.or_false iE Gp aco acp acq acr Option.map_some Option.some.injEq ofValue pP afM afL axQ axR axS axT at6 at5 at8 at7 ale atD agl asi asj ayA Nat.le_refl alK alU alG alI alQ aly alB alC alz alV alF alw alA alD alx ali alr alf alo alh alq ahE ahG aht ahx ahC ahD ahF ahv ahy ahz ahw ahH ahB ahA ahu l8 Bool.or_self Bool.and_self w8 eA List.getElem?_cons_zero List.getElem?_cons_succ Lu Lp Ll Ls Lj Li Lr Ln Lk Lm Lq M3 M2 LO LM LN LP Oc Ob M6 M5 MB MC MA Mz Se Sd mF nC ae7 ae3 ae0 ae6 aeY aeX ae5 ae2 aeZ ae1 ae4 aiH aiG af4 af3 af7 af5 af6 azx azw ai4 ai3 ahl ahm ahk ahj alv alt alu axU axW axV azV az4 azI azM azR azT azS az0 azK az2 azN azO azL az5 azQ az3 azW azJ azU azZ azY lR alM alS alH alW alP alO alJ alT als alg alp alk alm asl atU az6 atw avx atv avu agR arH Hv B4 az1 alR
section
variable(P:Program)
def Wr(t f:Nat):Option Nat:=(P.underlying t).bind fun
 | .struct fields=>(fields[f]?).bind fun j=>(dh P j.type).bind fun n=>bif aK n 0 then none else some j.offset
 |_=>none
abbrev cd(t f k:Nat):Prop:= ∀lc:Loc,(∀l g o,tz P lc t (.Gt l g o) f=bif aK (lc.gen l) g then some (.Gt l g (o+k)) else none)/\(∀cs,tz P lc t (.ro cs) f=some (.ro (cs.drop k)))/\ ∀m o,tz P lc t (.ptr m o) f=some (.ptr m (o+k))
abbrev fW(t n b:Nat)(g:Bool)(z:aa):Prop:=lY P t=some ⟨n,b,g,z⟩/\r9 P t=true/\(∀lc m xs r i,gS P lc t (.list m xs r) i=(dv i).bind fun i=>bif aK m n&&bh i xs.length then some (.ro (nF xs i).cells) else none)/\(∀lc a m o l c i,gS P lc t (.arr a m o l c) i=(dv i).bind fun i=>bif aK a n&&bh i l then some (.ptr m (o+i*n)) else none)/\(∀mk s,iM P mk t .Ge s=some (.int .i64 (0:Nat)))/\ ∀mk n xs r s,iM P mk t (.list n xs r) s=some (.int .i64 (xs:List aa).length)
abbrev dU(t:Nat):Prop:= ∀cs off,iC P t cs off=(cs.drop off).head?
abbrev fw(t n:Nat):Prop:= ∀cs off,iC P t cs off=(cut cs off n).bind fun r=>some (.agg r)
abbrev gL(t:Nat)(l:List (Nat×Nat)):Prop:= ∀ps e,tl P t ps e=(ei P t).bind fun z=>(aZ (fun i=>l[i]?) e z.cells ps).bind fun c=>some (.agg c)
abbrev uA(t n:Nat):Prop:= ∀ps e,tl P t ps e=(ei P t).bind fun z=>(aZ (fun i=>some (i*n,n)) e z.cells ps).bind fun c=>some (.agg c)
def US(t:Nat):Option (List (Nat×Nat)):=(P.underlying t).bind fun
 | .struct fields=>Dr P fields.toList
 |_=>none
def back(t:Nat):Option Nat:=(P.underlying t).bind fun
 | .array _ e=>dh P e
 |_=>none
end
variable{P:Program}{t f k n b:Nat}{g:Bool}{z:aa}
def cd.of(h:Wr P t f=some k:=by kernel_rfl):cd P t f k:=by
 intro lc;unfold Wr at h;unfold tz;cases e:P.underlying t with
 |none=>rw[e] at h;cases h
 |some d=>
  rw[e] at h;cases d<;>try (cases h;done)
  rename_i j;simp only[bk] at h ⊢;cases e1:j[f]? with
  |none=>rw[e1] at h;cases h
  |some q=>
   rw[e1] at h;simp only[bk] at h ⊢;cases e2:dh P q.type with
   |none=>rw[e2] at h;cases h
   |some m=>
    rw[e2] at h;simp only[bk] at h ⊢;cases e3:aK m 0 with
    |true=>rw[e3] at h;cases h
    |false=>
     rw[e3] at h;simp only[cF,aM] at h ⊢;subst h;exact⟨fun _ _ _=>rfl,fun _=>rfl,fun _ _=>rfl⟩
def fW.of(h:lY P t=some ⟨n,b,g,z⟩:=by kernel_rfl):fW P t n b g z:=by
 refine⟨h,?_⟩;unfold lY at h;cases e:P.underlying t with
 |none=>rw[e] at h;cases h
 |some d=>
  rw[e] at h;cases d<;>try (cases h;done)
  rename_i w;simp only[bk,yj] at h;cases e1:dh P w with
  |none=>rw[e1] at h;cases h
  |some m=>
   rw[e1] at h;have q:m=n:=by
    simp only[bk,ak] at h;obtain⟨A,_,u,_,j,_,h⟩:=h;cases hc:(bh 0 m&&aK j.cells.length m&&(u||aK m 1)&&bh 0 A) with
    |false=>rw[hc] at h;cases h
    |true=>rw[hc] at h;injection h with h;injection h
   subst q;refine⟨by unfold r9;rw[e],fun lc a xs r i=>?_,fun lc a B o l c i=>?_,fun mk s=>?_,fun mk a xs r s=>?_⟩
   all_goals simp only[gS,iM,e,bk,e1]
   rfl
def dU.of(h:AR P t=some false:=by kernel_rfl):dU P t:=fun cs j=>by
 unfold iC;rw[h];simp only[bk,cF];cases cs.drop j<;>rfl
def fw.of(h:AR P t=some true:=by kernel_rfl)(q:dh P t=some n:=by kernel_rfl):fw P t n:=fun cs j=>by
 unfold iC;rw[h,q];rfl
def gL.of{l:List (Nat×Nat)}(h:US P t=some l:=by kernel_rfl):gL P t l:=fun ps e=>by
 unfold US at h;unfold tl;cases e1:P.underlying t with
 |none=>rw[e1] at h;cases h
 |some d=>
  rw[e1] at h;cases d<;>try (cases h;done)
  simp only[bk] at h ⊢;rw[h];rfl
def uA.of(h:back P t=some n:=by kernel_rfl):uA P t n:=fun ps e=>by
 unfold back at h;unfold tl;cases e1:P.underlying t with
 |none=>rw[e1] at h;cases h
 |some d=>
  rw[e1] at h;cases d<;>try (cases h;done)
  simp only[bk] at h ⊢;rw[h];rfl
def au.lenS{enc:α->aa}{l:List α}(h:au n enc v l)(F:fW P t m b g z)(mk:aH)(s:St):iM P mk t v s=some (.int .i64 (l.length:Nat)):=h.len F.2.2.2.2.1 F.2.2.2.2.2 mk s
def bZ(a:α): ∃x,a=x:=⟨a,rfl⟩
def ug{n:Nat}(h:n<9223372036854775807):IntKind.i64.wrap ((n:Int)+1)=((n+1:Nat):Int):=by rw[jf (by omega) (by omega)];omega
def W.cnTZ{f:FuncId}{b:SC}(h:W Q f a fr s K)(j:ev fr.env o=some (.bool true):=by simp only[dA,iQ,Nat.reduceBEq,cT,cF, *]):W Q f (.cond o a b) fr s K:=W.cond (t:=true) j h
def W.cnFZ{f:FuncId}{b:SC}(h:W Q f b fr s K)(j:ev fr.env o=some (.bool false):=by simp only[dA,iQ,Nat.reduceBEq,cT,cF, *]):W Q f (.cond o a b) fr s K:=W.cond (t:=false) j h
def W.cnSZ{f:FuncId}(h:K .normal fr s)(j:ev fr.env o=some (.bool false):=by simp only[dA,iQ,Nat.reduceBEq,cT,cF, *]):W Q f (.cond o a .skip) fr s K:=W.cond (t:=false) j (W.skip h)
